/- Contracts of single functions: no condition but those that each states. -/
import Derived.Test.YtjifkcfmolnepaaB4
set_option linter.unusedVariables false
set_option linter.unusedSimpArgs false
namespace Go.L
open Go Go.RowKit Go.Proofs
set_option linter.unusedSimpArgs false
set_option linter.unusedVariables false

theorem nameT_ne (k : Nat) (h : 1 ≤ k) (h' : k < 21) : nameT.getD k ⟨#[]⟩ ≠ ⟨#[]⟩ := by
  have key : ∀ k : Nat, k < 21 → 1 ≤ k → (nameT.getD k ⟨#[]⟩).size ≠ 0 := by decide +kernel
  intro e
  exact key k h' h (by rw [e]; rfl)
theorem kIaLd23 {X : Chain → World → Prop} {q : Bool} {V : World} {lo : Option Addr} {lc : Nat} {l : List Int} {k : Value → World → Prop} (hl : Sl V lo 1 (l.map vInt)) {i : Nat} (hi : i < l.length) (h : k (.int .i64 l[i]) V) :
    kIa ⟨Try.prog, X, q⟩ V 23 (.slice lo l.length lc) (.int .i64 i) fun v W => kLoad ⟨Try.prog, X, q⟩ W 3 v k := by
  obtain ⟨pb, po, rfl, hpb, hpr⟩ := hl.elem (i := i) (v := vInt l[i]) (by simp [hi])
  exact kIa23 hi (kLdS rfl (hpr 0 (.int .i64 l[i]) rfl) h)
theorem all_step {l : List Int} {p : Int → Bool} {i : Nat} (hi : i < l.length) (h : ∀ r ∈ l.take i, p r = true) (hp : p l[i] = true) : ∀ r ∈ l.take (i + 1), p r = true := by
  intro r hr
  rw [List.take_succ_eq_append_getElem hi] at hr
  rcases List.mem_append.1 hr with hr | hr
  · exact h r hr
  · simp at hr; subst hr; exact hp
theorem all_bad {l : List Int} {p : Int → Bool} {i : Nat} (hi : i < l.length) (hp : p l[i] = false) : l.all p = false := by
  rw [List.all_eq_false]; exact ⟨_, List.getElem_mem hi, by simp [hp]⟩
theorem refMakes29 (o : Int) (l : List Int) (w : World) (lo : Option Addr) (lc : Nat) (hl : Sl w lo 1 (l.map vInt)) (hb : l.length ≤ 1000000) (R : Ending → World → Prop) (h : ∀ W, Below w.heap.size w W → R (.returned (.tuple #[.int .i64 (makV o l), .int .i64 (mkE o l)])) W) : Calls Try.prog 29 #[.int .i64 o, .slice lo l.length lc] w R := by
  have bad : ∀ e : Int, e ≠ 0 → ∀ V, Below w.heap.size w V → mkE o l = e → R (.returned (.tuple #[.int .i64 0, .int .i64 e])) V := by
    intro e he V hV hm
    have := h V hV
    rw [show makV o l = 0 from if_neg (by omega), hm] at this
    exact this
  refine c29 _ _ _ _ _ _ ?_
  unfold vc29
  refine kCall_i (Try.call31 _ _) (Info31 o _ _ fun W1 hB1 => kAlloc_st Try.zeroValue62 ((St.start w).bel hB1) fun p W2 hS2 => ?_)
  have hS2 : St w ([] ++ [.bx p 62 #[.string ⟨#[]⟩, .int .i64 0, .int .i64 0, .int .i64 0]]) W2 := hS2
  refine kStoreAR hS2 rfl (by simp [Value.oneCell']) Try.sizeOf62 fun W3 hS3 => ?_
  have hS3 : St w [.bx p 62 (iVal (infoO o)).cells] W3 := hS3
  refine kJn_inv (fun cs V => St w [.bx p 62 (iVal (infoO o)).cells] V ∧ (1 ≤ o ∧ o ≤ 20) ∧ (l.length : Int) = (infoO o).2.1) ?_ ?_
  · rintro cs V ⟨hV, ho, hlen⟩ ds
    have hpos : 0 < l.length := by rcases shape12 ho hlen with ⟨a, rfl, _⟩ | ⟨a, b, rfl, _⟩ <;> simp
    refine ⟨⟨fun cs V => ∃ i : Nat, cs = [.int .i64 i] ∧ i ≤ l.length ∧ (∀ r ∈ l.take i, rngT r = true) ∧ St w [.bx p 62 (iVal (infoO o)).cells] V, fun cs _ => l.length - (match cs with | [.int _ i] => i.toNat | _ => 0), ⟨0, rfl, Nat.zero_le _, by simp, hV⟩, ?_⟩⟩
    rintro cs ds V1 ⟨i, rfl, hile, hz, hV1⟩
    dsimp only [List.getD_cons_zero]
    refine kLen23 (kBin_lss (kIf_d (fun e => ?_) (fun e => ?_)))
    · have hil : i < l.length := by omega
      have rbad : rngT l[i] = false → R (.returned (.tuple #[.int .i64 0, .int .i64 2])) V1 := fun hr =>
        bad 2 (by omega) V1 hV1.below (by unfold mkE; rw [if_neg (by simp [ho, hlen]), if_pos (all_bad hil hr)])
      refine kIaLd23 (hl.below hV1.below) hil (kBin_lss (kIf_d (fun e1 => kIf_t (rbad ?_)) (fun e1 => kIaLd23 (hl.below hV1.below) hil (kBin_gtr (kIf_d (fun e2 => rbad ?_) (fun e2 => kBin_add (kD_i ⟨⟨i + 1, by rw [wrap_id (by omega) (by omega)]; rfl, hil, all_step hil hz ?_, hV1⟩, ?_⟩)))))))
      · simp [rngT]; omega
      · simp [rngT]; omega
      · simp [rngT]; omega
      · rw [wrap_id (by omega) (by omega)]; show l.length - ((i : Int) + 1).toNat < l.length - (i : Int).toNat; omega
    · have hil : i = l.length := by omega
      subst hil
      rw [List.take_length] at hz
      have hrng : l.all rngT = true := List.all_eq_true.2 hz
      have hrng' : ∀ t ∈ l, 0 ≤ t ∧ t ≤ 4 := fun t ht => by have := hz t ht; simpa [rngT] using this
      refine kIaLd23 (i := 0) (hl.below hV1.below) hpos (kLen23 (kBin_sub ?_))
      rw [wrap_id (by omega) (by omega), show ((l.length : Int) - 1) = ((l.length - 1 : Nat) : Int) by omega]
      refine kIaLd23 (hl.below hV1.below) (by omega) ?_
      have hhead : l.headD 0 = l[0] := by cases l with | nil => simp at hpos | cons a t => rfl
      have hlast : l.getLastD 0 = l[l.length - 1] := by
        rw [List.getLastD_eq_getLast?, List.getLast?_eq_getElem?, List.getElem?_eq_getElem (by omega)]; rfl
      refine ⟨⟨fun cs V => ∃ i : Nat, cs = [.int .i64 i] ∧ i ≤ l.length ∧ (∀ r ∈ l.take i, okT o r = true) ∧ St w [.bx p 62 (iVal (infoO o)).cells] V, fun cs _ => l.length - (match cs with | [.int _ i] => i.toNat | _ => 0), ⟨0, rfl, Nat.zero_le _, by simp, hV1⟩, ?_⟩⟩
      rintro cs ds V2 ⟨i, rfl, hile, hz2, hV2⟩
      dsimp only [List.getD_cons_zero]
      refine kLen23 (kBin_lss (kIf_d (fun e => ?_) (fun e => ?_)))
      · have hil : i < l.length := by omega
        have hti := hrng' _ (List.getElem_mem hil)
        have obad : ∀ V, St w [.bx p 62 (iVal (infoO o)).cells] V → okT o l[i] = false → R (.returned (.tuple #[.int .i64 0, .int .i64 120])) V := fun V hV hr =>
          bad 120 (by omega) V hV.below (by unfold mkE; rw [if_neg (by simp [ho, hlen]), if_neg (by simp [hrng]), if_pos (all_bad hil hr)])
        refine kJn_inv (fun cs V => St w [.bx p 62 (iVal (infoO o)).cells] V ∧ ((infoO o).2.2.1 = 0 ∨ l[i] = 0 ∨ l[i] = (infoO o).2.2.1)) ?_ ?_
        · rintro cs V ⟨hV, hof⟩ ds
          have next : okT o l[i] = true → ∀ W, St w [.bx p 62 (iVal (infoO o)).cells] W → kBin (cR Try.prog R) W .add 3 (.int .i64 i) (.int .i64 1) fun v58 w_16 => kD [] [] ((fun (cs : List Value) (W : World) => (∃ i : Nat, cs = [.int .i64 i] ∧ i ≤ l.length ∧ (∀ r ∈ l.take i, okT o r = true) ∧ St w [.bx p 62 (iVal (infoO o)).cells] W) ∧ l.length - (match cs with | [.int _ i] => i.toNat | _ => 0) < l.length - (i : Int).toNat) [v58] w_16) := by
            intro hk W hW
            refine kBin_add (kD_i ⟨⟨i + 1, by rw [wrap_id (by omega) (by omega)]; rfl, hil, all_step hil hz2 hk, hW⟩, ?_⟩)
            rw [wrap_id (by omega) (by omega)]; show l.length - ((i : Int) + 1).toNat < l.length - (i : Int).toNat; omega
          have okk : (¬ (o = 6 ∨ o = 19) ∨ (l[i] ≠ 1 ∧ l[i] ≠ 2)) → okT o l[i] = true := by
            intro q
            unfold okT
            simp only [Bool.or_eq_true, Bool.and_eq_true, beq_iff_eq, bne_iff_ne, decide_eq_true_eq]
            omega
          have okb : (o = 6 ∨ o = 19) → (l[i] = 1 ∨ l[i] = 2) → okT o l[i] = false := by
            intro q1 q2
            rw [Bool.eq_false_iff]; unfold okT
            simp only [ne_eq, Bool.or_eq_true, Bool.and_eq_true, beq_iff_eq, bne_iff_ne, decide_eq_true_eq]
            omega
          refine kEq_int (kIf_eq (fun e6 => ?_) (fun e6 => kEq_int (kIf_eq (fun e19 => ?_) (fun e19 => kIf_f (next (okk (.inl (by omega))) _ hV)))))
          · exact kIaLd23 (hl.below hV.below) hil (kEq_int (kIf_eq (fun e1 => kIf_t (obad _ hV (okb (.inl e6) (.inl e1)))) (fun e1 => kIaLd23 (hl.below hV.below) hil (kEq_int (kIf_eq (fun e2 => obad _ hV (okb (.inl e6) (.inr e2))) (fun e2 => next (okk (.inr ⟨e1, e2⟩)) _ hV))))))
          · exact kIaLd23 (hl.below hV.below) hil (kEq_int (kIf_eq (fun e1 => kIf_t (obad _ hV (okb (.inr e19) (.inl e1)))) (fun e1 => kIaLd23 (hl.below hV.below) hil (kEq_int (kIf_eq (fun e2 => obad _ hV (okb (.inr e19) (.inr e2))) (fun e2 => next (okk (.inr ⟨e1, e2⟩)) _ hV))))))
        · intro J hJ
          refine kDrawn_i (kFa62 2 (by omega) (kLd hV2 0 rfl rfl rfl (kNe_int (kIf_ne (fun e1 => ?_) (fun e1 => kDrew_st hV2 fun V hV => kIf_f (kD_i (hJ _ _ ⟨hV, .inl e1⟩)))))))
          refine kIaLd23 (hl.below hV2.below) hil (kNe_int (kIf_ne (fun e2 => ?_) (fun e2 => kDrew_st hV2 fun V hV => kIf_f (kD_i (hJ _ _ ⟨hV, .inr (.inl e2)⟩)))))
          refine kIaLd23 (hl.below hV2.below) hil (kFa62 2 (by omega) (kLd hV2 0 rfl rfl rfl (kNe_int (kDrew_st hV2 fun V hV => kIf_ne (fun e3 => ?_) (fun e3 => kD_i (hJ _ _ ⟨hV, .inr (.inr e3)⟩))))))
          refine obad _ hV ?_
          rw [Bool.eq_false_iff]; unfold okT
          simp only [ne_eq, Bool.or_eq_true, Bool.and_eq_true, beq_iff_eq, bne_iff_ne, decide_eq_true_eq]
          have e1 : (infoO o).2.2.1 ≠ 0 := e1
          have e3 : l[i] ≠ (infoO o).2.2.1 := e3
          omega
      · have hil : i = l.length := by omega
        subst hil
        rw [List.take_length] at hz2
        have hok : l.all (okT o) = true := List.all_eq_true.2 hz2
        have hE : mkE o l = if clash o l[0] l[l.length - 1] then 120 else 0 := by
          unfold mkE; rw [if_neg (by simp [ho, hlen]), if_neg (by simp [hrng]), if_neg (by simp [hok]), hhead, hlast]
        refine kJn_inv (fun cs V => V = V2 ∧ ¬ clash o l[0] l[l.length - 1]) ?_ ?_
        · rintro cs V ⟨rfl, hnc⟩ ds
          have hE0 : mkE o l = 0 := by rw [hE, if_neg hnc]
          have fin := h V hV2.below
          rw [show makV o l = mkV o l from if_pos hE0, hE0] at fin
          refine kEq_int (kIf_eq (fun e6 => kMax2 ?_) (fun e6 => kFa62 3 (by omega) (kLd hV2 0 rfl rfl rfl ?_)))
          · have : mkV o l = if l[l.length - 1] > l[0] then l[l.length - 1] else l[0] := by
              unfold mkV; rw [if_pos e6, hhead, hlast, Int.max_def]; split <;> split <;> omega
            rw [this] at fin; exact fin
          · rw [show mkV o l = (infoO o).2.2.2 from if_neg e6] at fin; exact fin
        · intro J hJ
          have nc : ¬ clash o l[0] l[l.length - 1] → J [] V2 := fun q => hJ _ _ ⟨rfl, q⟩
          refine kBin_geq (kIf_d (fun e1 => kBin_leq (kIf_d (fun e2 => kNe_int (kIf_ne (fun e3 => kNe_int (kIf_ne (fun e4 => kNe_int (kIf_ne (fun e5 => ?_) (fun e5 => kD_i (nc ?_)))) (fun e4 => kIf_f (kD_i (nc ?_))))) (fun e3 => kIf_f (kD_i (nc ?_))))) (fun e2 => kIf_f (kD_i (nc ?_))))) (fun e1 => kIf_f (kD_i (nc ?_))))
          · exact bad 120 (by omega) _ hV2.below (by rw [hE]; exact if_pos ⟨e1, e2, e3, e4, e5⟩)
          all_goals unfold clash; omega
  · intro J hJ
    refine kFa62 0 (by omega) (kLd hS3 0 rfl rfl rfl (kEq_str (kIf_d (fun e => kIf_t (bad 2 (by omega) _ hS3.below ?_)) (fun e => kLen23 (kFa62 1 (by omega) (kLd hS3 0 rfl rfl rfl (kNe_int (kIf_ne (fun e2 => bad 2 (by omega) _ hS3.below ?_) (fun e2 => kD_i (hJ _ _ ⟨hS3, ?_, e2⟩))))))))))
    · unfold mkE
      refine if_pos fun q => ?_
      obtain ⟨k, rfl⟩ : ∃ k : Nat, o = (k : Int) := ⟨o.toNat, by omega⟩
      rw [infoO_name k (by omega) (by omega)] at e
      exact nameT_ne k (by omega) (by omega) e
    · unfold mkE
      exact if_pos fun q => e2 q.2.2
    · refine Decidable.byContradiction fun q => e ?_
      rw [show infoO o = info0 from if_neg q]; rfl
end Go.L
namespace Go.L
open Go Go.RowKit Go.Proofs
set_option linter.unusedSimpArgs false
set_option linter.unusedVariables false

def fitV (z : Int) : Int := if big z then z else 0
def RetT (w : World) (v e : Int) (R : Ending → World → Prop) : Prop := R (.returned (.tuple #[.int .i64 v, .int .i64 e])) w
theorem RetT.fit {w : World} {z : Int} {R : Ending → World → Prop} (h : RetT w (fitV z) (fitE z) R) (hb : big z) : R (.returned (.tuple #[.int .i64 (IntKind.i64.wrap z), .int .i64 0])) w := by
  unfold RetT at h; rw [fitV, if_pos hb, fitE, if_pos hb] at h; rw [wrap_big hb]; exact h
theorem RetT.over {w : World} {z : Int} {R : Ending → World → Prop} (h : RetT w (fitV z) (fitE z) R) (hb : ¬ big z) : R (.returned (.tuple #[.int .i64 0, .int .i64 122])) w := by
  unfold RetT at h; rw [fitV, if_neg hb, fitE, if_neg hb] at h; exact h
theorem refAdd109 (a b : Int) (ha : big a) (hb : big b) (w : World) (R : Ending → World → Prop) (h : RetT w (fitV (a + b)) (fitE (a + b)) R) : Calls Try.prog 109 #[.int .i64 a, .int .i64 b] w R := by
  obtain ⟨ha0, ha1⟩ := ha
  obtain ⟨hb0, hb1⟩ := hb
  refine c109 _ _ _ _ ?_
  unfold vc109
  refine kJn_inv (fun cs V => V = w ∧ big (a + b)) ?_ ?_
  · rintro cs V ⟨rfl, hbg⟩ ds
    exact kBin_add (h.fit hbg)
  · intro J hJ
    have ok : big (a + b) → J [] w := fun q => hJ _ _ ⟨rfl, q⟩
    have w1 : b > 0 → IntKind.i64.wrap (9223372036854775807 - b) = 9223372036854775807 - b := fun q => wrap_id (by omega) (by omega)
    have w2 : b < 0 → IntKind.i64.wrap (-9223372036854775808 - b) = -9223372036854775808 - b := fun q => wrap_id (by omega) (by omega)
    refine kBin_gtr (kIf_d (fun e => kBin_sub (kBin_gtr (kIf_d (fun e1 => kIf_t (h.over ?_)) (fun e1 => kBin_lss (kIf_d (fun e2 => absurd e2 (by omega)) (fun e2 => kIf_f (kD_i (ok ?_)))))))) (fun e => kBin_lss (kIf_d (fun e1 => kBin_sub (kBin_lss (kIf_d (fun e2 => h.over ?_) (fun e2 => kD_i (ok ?_))))) (fun e1 => kIf_f (kD_i (ok ?_))))))
    · rw [w1 e] at e1; unfold big; omega
    · rw [w1 e] at e1; unfold big; omega
    · rw [w2 e1] at e2; unfold big; omega
    · rw [w2 e1] at e2; unfold big; omega
    · unfold big; omega
theorem refSub110 (a b : Int) (ha : big a) (hb : big b) (w : World) (R : Ending → World → Prop) (h : RetT w (fitV (a - b)) (fitE (a - b)) R) : Calls Try.prog 110 #[.int .i64 a, .int .i64 b] w R := by
  obtain ⟨ha0, ha1⟩ := ha
  obtain ⟨hb0, hb1⟩ := hb
  refine c110 _ _ _ _ ?_
  unfold vc110
  refine kJn_inv (fun cs V => V = w ∧ big (a - b)) ?_ ?_
  · rintro cs V ⟨rfl, hbg⟩ ds
    exact kBin_sub (h.fit hbg)
  · intro J hJ
    have ok : big (a - b) → J [] w := fun q => hJ _ _ ⟨rfl, q⟩
    have w1 : b > 0 → IntKind.i64.wrap (-9223372036854775808 + b) = -9223372036854775808 + b := fun q => wrap_id (by omega) (by omega)
    have w2 : b < 0 → IntKind.i64.wrap (9223372036854775807 + b) = 9223372036854775807 + b := fun q => wrap_id (by omega) (by omega)
    refine kBin_gtr (kIf_d (fun e => kBin_add (kBin_lss (kIf_d (fun e1 => kIf_t (h.over ?_)) (fun e1 => kBin_lss (kIf_d (fun e2 => absurd e2 (by omega)) (fun e2 => kIf_f (kD_i (ok ?_)))))))) (fun e => kBin_lss (kIf_d (fun e1 => kBin_add (kBin_gtr (kIf_d (fun e2 => h.over ?_) (fun e2 => kD_i (ok ?_))))) (fun e1 => kIf_f (kD_i (ok ?_))))))
    · rw [w1 e] at e1; unfold big; omega
    · rw [w1 e] at e1; unfold big; omega
    · rw [w2 e1] at e2; unfold big; omega
    · rw [w2 e1] at e2; unfold big; omega
    · unfold big; omega
theorem m_pos (x y N : Nat) (hy : 0 < y) : ((x : Int) > ((N / y : Nat) : Int)) ↔ N < x * y := by
  rw [← Nat.div_lt_iff_lt_mul hy]; omega
theorem m1 {x y : Nat} (hx : 0 < x) (hy : 0 < y) : (x : Int) > Int.tdiv 9223372036854775807 y ↔ ¬ big ((x : Int) * y) := by
  have e : Int.tdiv 9223372036854775807 (y : Int) = ((9223372036854775807 / y : Nat) : Int) := rfl
  rw [e, m_pos x y _ hy, ← Int.natCast_mul]; unfold big; omega
theorem m2 {x y : Nat} (hx : 0 < x) (hy : 0 < y) : -(x : Int) < Int.tdiv 9223372036854775807 (-(y : Int)) ↔ ¬ big (-(x : Int) * -(y : Int)) := by
  have e : Int.tdiv 9223372036854775807 (y : Int) = ((9223372036854775807 / y : Nat) : Int) := rfl
  have k := m_pos x y 9223372036854775807 hy
  rw [Int.tdiv_neg, e, Int.neg_mul_neg, ← Int.natCast_mul]; unfold big; omega
theorem m3 {x y : Nat} (hx : 0 < x) (hy : 0 < y) : -(y : Int) < Int.tdiv (-9223372036854775808) x ↔ ¬ big ((x : Int) * -(y : Int)) := by
  have e : Int.tdiv (-9223372036854775808) (x : Int) = -((9223372036854775808 / x : Nat) : Int) := by
    rw [show (-9223372036854775808 : Int) = -(9223372036854775808 : Int) from rfl, Int.neg_tdiv]; rfl
  have k := m_pos y x 9223372036854775808 hx
  rw [Nat.mul_comm] at k
  rw [e, Int.mul_neg, ← Int.natCast_mul]; unfold big; omega
theorem m4 {x y : Nat} (hx : 0 < x) (hy : 0 < y) : -(x : Int) < Int.tdiv (-9223372036854775808) y ↔ ¬ big (-(x : Int) * (y : Int)) := by
  have e : Int.tdiv (-9223372036854775808) (y : Int) = -((9223372036854775808 / y : Nat) : Int) := by
    rw [show (-9223372036854775808 : Int) = -(9223372036854775808 : Int) from rfl, Int.neg_tdiv]; rfl
  have k := m_pos x y 9223372036854775808 hy
  rw [e, Int.neg_mul, ← Int.natCast_mul]; unfold big; omega
theorem mulPP {a b : Int} (ha : a > 0) (hb : b > 0) : a > Int.tdiv 9223372036854775807 b ↔ ¬ big (a * b) := by
  obtain ⟨x, rfl⟩ := Int.eq_ofNat_of_zero_le (show 0 ≤ a by omega)
  obtain ⟨y, rfl⟩ := Int.eq_ofNat_of_zero_le (show 0 ≤ b by omega)
  exact m1 (by omega) (by omega)
theorem mulNN {a b : Int} (ha : a < 0) (hb : b < 0) : a < Int.tdiv 9223372036854775807 b ↔ ¬ big (a * b) := by
  obtain ⟨x, hx⟩ := Int.eq_ofNat_of_zero_le (show 0 ≤ -a by omega)
  obtain ⟨y, hy⟩ := Int.eq_ofNat_of_zero_le (show 0 ≤ -b by omega)
  have := m2 (x := x) (y := y) (by omega) (by omega)
  rw [← hx, ← hy, Int.neg_neg, Int.neg_neg] at this; exact this
theorem mulPN {a b : Int} (ha : a > 0) (hb : b < 0) : b < Int.tdiv (-9223372036854775808) a ↔ ¬ big (a * b) := by
  obtain ⟨x, rfl⟩ := Int.eq_ofNat_of_zero_le (show 0 ≤ a by omega)
  obtain ⟨y, hy⟩ := Int.eq_ofNat_of_zero_le (show 0 ≤ -b by omega)
  have := m3 (x := x) (y := y) (by omega) (by omega)
  rw [← hy, Int.neg_neg] at this; exact this
theorem mulNP {a b : Int} (ha : a < 0) (hb : b > 0) : a < Int.tdiv (-9223372036854775808) b ↔ ¬ big (a * b) := by
  obtain ⟨x, hx⟩ := Int.eq_ofNat_of_zero_le (show 0 ≤ -a by omega)
  obtain ⟨y, rfl⟩ := Int.eq_ofNat_of_zero_le (show 0 ≤ b by omega)
  have := m4 (x := x) (y := y) (by omega) (by omega)
  rw [← hx, Int.neg_neg] at this; exact this
end Go.L
namespace Go.L
open Go Go.RowKit Go.Proofs
set_option linter.unusedSimpArgs false
set_option linter.unusedVariables false

theorem kIf_t' {p : Prop} [Decidable p] {A B : Prop} (h : A) : kIf (.bool true) A B := ⟨h⟩
theorem qMax {b : Int} (hb : big b) (h0 : b ≠ 0) : IntKind.i64.wrap (Int.tdiv 9223372036854775807 b) = Int.tdiv 9223372036854775807 b :=
  wrap_big ((tdiv_big ⟨by decide, by decide⟩ hb h0).2 (.inl (by decide)))
theorem qMin {b : Int} (hb : big b) (h0 : b > 0) : IntKind.i64.wrap (Int.tdiv (-9223372036854775808) b) = Int.tdiv (-9223372036854775808) b :=
  wrap_big ((tdiv_big ⟨by decide, by decide⟩ hb (by omega)).2 (.inr (by omega)))
theorem refMul111 (a b : Int) (ha : big a) (hb : big b) (w : World) (R : Ending → World → Prop) (h : RetT w (fitV (a * b)) (fitE (a * b)) R) : Calls Try.prog 111 #[.int .i64 a, .int .i64 b] w R := by
  refine c111 _ _ _ _ ?_
  unfold vc111
  refine kJn_inv (fun cs V => V = w ∧ big (a * b)) ?_ ?_
  · rintro cs V ⟨rfl, hbg⟩ ds
    exact kBin_mul (h.fit hbg)
  · intro J hJ
    have ok : big (a * b) → J [] w := fun q => hJ _ _ ⟨rfl, q⟩
    refine kJn_inv (fun cs V => V = w ∧ cs = [.bool (decide (a = 0 ∨ b = 0))]) ?_ ?_
    · rintro cs V ⟨rfl, rfl⟩ ds
      refine kIf_d (fun e => ?_) (fun e0 => kEq_int (kIf_eq (fun e => ?_) (fun e1 => kEq_int (kIf_eq (fun e => ?_) (fun e2 => ?_)))))
      · have hz : a * b = 0 := by rcases e with rfl | rfl <;> simp
        rw [hz] at h; exact h
      · subst e
        have hz : (-1 : Int) * b = 0 - b := by omega
        rw [hz] at h
        exact kCall_i (Try.call110 _ _) (refSub110 0 b ⟨by decide, by decide⟩ hb _ _ (kExt_0 (kExt_1 h)))
      · subst e
        have hz : a * (-1 : Int) = 0 - a := by omega
        rw [hz] at h
        exact kCall_i (Try.call110 _ _) (refSub110 0 a ⟨by decide, by decide⟩ ha _ _ (kExt_0 (kExt_1 h)))
      · have ha0 : a ≠ 0 := fun q => e0 (.inl q)
        have hb0 : b ≠ 0 := fun q => e0 (.inr q)
        refine kJn_inv (fun cs V' => V' = V ∧ cs = [.bool (decide (a > 0 ∧ b > 0 ∧ ¬ big (a * b)))]) ?_ ?_
        · rintro cs V' ⟨rfl, rfl⟩ ds
          refine kIf_d (fun e => kIf_d (fun _ => h.over e.2.2) (fun q => absurd e q)) (fun n1 => ?_)
          refine kJn_inv (fun cs V => V = V' ∧ cs = [.bool (decide (a < 0 ∧ b < 0 ∧ ¬ big (a * b)))]) ?_ ?_
          · rintro cs V ⟨rfl, rfl⟩ ds
            refine kIf_d (fun e => kIf_d (fun _ => h.over e.2.2) (fun q => absurd e q)) (fun n2 => ?_)
            refine kJn_inv (fun cs V' => V' = V ∧ cs = [.bool (decide (a > 0 ∧ b < 0 ∧ ¬ big (a * b)))]) ?_ ?_
            · rintro cs V' ⟨rfl, rfl⟩ ds
              refine kIf_d (fun e => kIf_d (fun _ => h.over e.2.2) (fun q => absurd e q)) (fun n3 => ?_)
              refine kBin_lss (kIf_d (fun e => kBin_gtr (kIf_d (fun e' => kBin_quoI hb0 ?_) (fun e' => kIf_f (kD_i (ok ?_))))) (fun e => kIf_f (kD_i (ok ?_))))
              · rw [qMin hb e']
                refine kBin_lss (kIf_d (fun q => h.over ((mulNP e e').1 q)) (fun q => kD_i (ok (Decidable.byContradiction fun r => q ((mulNP e e').2 r)))))
              · exact Decidable.byContradiction fun r => n2 ⟨e, by omega, r⟩
              · exact Decidable.byContradiction fun r => by
                  by_cases hbp : b > 0
                  · exact n1 ⟨by omega, hbp, r⟩
                  · exact n3 ⟨by omega, by omega, r⟩
            · intro J hJ
              refine kBin_gtr (kIf_d (fun e => kBin_lss (kIf_d (fun e' => kBin_quoI ha0 ?_) (fun e' => kD_i (hJ _ _ ⟨rfl, ?_⟩)))) (fun e => kD_i (hJ _ _ ⟨rfl, ?_⟩)))
              · rw [qMin ha e]
                refine kBin_lss (kD_i (hJ _ _ ⟨rfl, ?_⟩))
                congr 2; rw [decide_eq_decide, mulPN e e']; exact ⟨fun q => ⟨e, e', q⟩, fun q => q.2.2⟩
              · rw [decide_eq_false (fun q => e' q.2.1)]
              · rw [decide_eq_false (fun q => e q.1)]
          · intro J hJ
            refine kBin_lss (kIf_d (fun e => kBin_lss (kIf_d (fun e' => kBin_quoI hb0 ?_) (fun e' => kD_i (hJ _ _ ⟨rfl, ?_⟩)))) (fun e => kD_i (hJ _ _ ⟨rfl, ?_⟩)))
            · rw [qMax hb hb0]
              refine kBin_lss (kD_i (hJ _ _ ⟨rfl, ?_⟩))
              congr 2; rw [decide_eq_decide, mulNN e e']; exact ⟨fun q => ⟨e, e', q⟩, fun q => q.2.2⟩
            · rw [decide_eq_false (fun q => e' q.2.1)]
            · rw [decide_eq_false (fun q => e q.1)]
        · intro J hJ
          refine kBin_gtr (kIf_d (fun e => kBin_gtr (kIf_d (fun e' => kBin_quoI hb0 ?_) (fun e' => kD_i (hJ _ _ ⟨rfl, ?_⟩)))) (fun e => kD_i (hJ _ _ ⟨rfl, ?_⟩)))
          · rw [qMax hb hb0]
            refine kBin_gtr (kD_i (hJ _ _ ⟨rfl, ?_⟩))
            congr 2; rw [decide_eq_decide, mulPP e e']; exact ⟨fun q => ⟨e, e', q⟩, fun q => q.2.2⟩
          · rw [decide_eq_false (fun q => e' q.2.1)]
          · rw [decide_eq_false (fun q => e q.1)]
    · intro J hJ
      refine kEq_int (kIf_eq (fun e => kD_i (hJ _ _ ⟨rfl, ?_⟩)) (fun e => kEq_int (kD_i (hJ _ _ ⟨rfl, ?_⟩))))
      · rw [decide_eq_true (Or.inl e)]
      · congr 2; rw [Bool.eq_iff_iff]; simp [e]
/-- What whole numbers give. -/
def wholeZ (o a b : Int) : Int := if o = 1 then a + b else if o = 2 then a - b else if o = 3 then a * b else if o = 4 then Int.tdiv a b else if o = 5 then Int.tmod a b else if o = 20 then (if a < 0 then -a else a) else -a
def wholeE (o a b : Int) : Int := if (o = 4 ∨ o = 5) ∧ b = 0 then 121 else fitE (wholeZ o a b)
def wholeV (o a b : Int) : Int := if wholeE o a b = 0 then wholeZ o a b else 0
theorem whole72 (o a b : Int) (ha : big a) (hb : big b) (w : World) (R : Ending → World → Prop) (h : RetT w (wholeV o a b) (wholeE o a b) R) : Calls Try.prog 72 #[.int .i64 o, .int .i64 a, .int .i64 b] w R := by
  have fit : ∀ z, ¬ ((o = 4 ∨ o = 5) ∧ b = 0) → wholeZ o a b = z → RetT w (fitV z) (fitE z) R := by
    intro z hn hz
    have e1 : wholeE o a b = fitE z := by rw [wholeE, if_neg hn, hz]
    have e2 : wholeV o a b = fitV z := by
      unfold wholeV fitV; rw [e1, hz]; unfold fitE; by_cases q : big z <;> simp [q]
    rw [← e1, ← e2]; exact h
  refine c72 _ _ _ _ _ ?_
  unfold vc72
  refine kJn_inv (fun cs V => V = w ∧ (wholeZ o a b = 0 - a) ∧ ¬ ((o = 4 ∨ o = 5) ∧ b = 0)) ?_ ?_
  · rintro cs V ⟨rfl, hz, hn⟩ ds
    exact kCall_i (Try.call110 _ _) (refSub110 0 a ⟨by decide, by decide⟩ ha _ _ (kExt_0 (kExt_1 (fit _ hn hz))))
  · intro J hJ
    refine kEq_int (kIf_eq (fun e => ?_) (fun e1 => kEq_int (kIf_eq (fun e => ?_) (fun e2 => kEq_int (kIf_eq (fun e => ?_) (fun e3 => ?_))))))
    · exact kCall_i (Try.call109 _ _) (refAdd109 a b ha hb _ _ (kExt_0 (kExt_1 (fit _ (by omega) (by simp [wholeZ, e])))))
    · exact kCall_i (Try.call110 _ _) (refSub110 a b ha hb _ _ (kExt_0 (kExt_1 (fit _ (by omega) (by simp [wholeZ, e])))))
    · exact kCall_i (Try.call111 _ _) (refMul111 a b ha hb _ _ (kExt_0 (kExt_1 (fit _ (by omega) (by simp [wholeZ, e])))))
    · refine kJn_inv (fun cs V => V = w ∧ cs = [.bool (decide (o = 4 ∨ o = 5))]) ?_ ?_
      · rintro cs V ⟨rfl, rfl⟩ ds
        refine kIf_d (fun e45 => kEq_int (kIf_eq (fun e => ?_) (fun hb0 => ?_))) (fun e45 => kEq_int (kIf_eq (fun e20 => kBin_geq (kIf_d (fun e => ?_) (fun e => kD_i (hJ _ _ ⟨rfl, ?_, by omega⟩)))) (fun e20 => kD_i (hJ _ _ ⟨rfl, ?_, by omega⟩))))
        · have e1 : wholeE o a b = 121 := if_pos ⟨e45, e⟩
          have : RetT V 0 121 R := by rw [← e1]; rw [show wholeV o a b = 0 from if_neg (by omega)] at h; exact h
          exact this
        · refine kJn_inv (fun cs V' => V' = V ∧ ¬ (b = -1 ∧ o = 5)) ?_ ?_
          · rintro cs V' ⟨rfl, hn5⟩ ds
            refine kEq_int (kIf_eq (fun e => ?_) (fun em => kEq_int (kIf_eq (fun e4 => kBin_quoI hb0 ?_) (fun e4 => kBin_remI hb0 ?_))))
            · have e4 : o = 4 := by omega
              subst e
              exact kCall_i (Try.call110 _ _) (refSub110 0 a ⟨by decide, by decide⟩ ha _ _ (kExt_0 (kExt_1 (fit _ (by omega) (by
                simp [wholeZ, e4]; try (rw [show (-1 : Int) = -(1 : Int) from rfl, Int.tdiv_neg, Int.tdiv_one]); try omega)))))
            · exact (fit (Int.tdiv a b) (by omega) (by simp [wholeZ, e4])).fit ((tdiv_big ha hb hb0).2 (.inr em))
            · have hbg := tmod_big (x := a) hb hb0
              have := (fit (Int.tmod a b) (by omega) (by simp [wholeZ, e1, e2, e3, e4]; try omega)).fit hbg
              rwa [wrap_big hbg] at this
          · intro J hJ
            refine kEq_int (kIf_eq (fun e => kEq_int (kIf_eq (fun e5 => ?_) (fun e5 => kD_i (hJ _ _ ⟨rfl, fun q => e5 q.2⟩)))) (fun e => kIf_f (kD_i (hJ _ _ ⟨rfl, fun q => e q.1⟩))))
            have hz : wholeZ o a b = 0 := by
              subst e; simp [wholeZ, e5]; try (rw [show (-1 : Int) = -(1 : Int) from rfl, Int.tmod_neg, Int.tmod_one])
            exact fit 0 (by omega) hz
        · have hz : wholeZ o a b = a := by simp [wholeZ, e20]; try omega
          have := (fit a (by omega) hz).fit ha
          rwa [wrap_big ha] at this
        · simp [wholeZ, e20]; omega
        · have h4 : o ≠ 4 := fun q => e45 (.inl q)
          have h5 : o ≠ 5 := fun q => e45 (.inr q)
          simp [wholeZ, e1, e2, e3, h4, h5, e20]
      · intro J hJ
        refine kEq_int (kIf_eq (fun e => kD_i (hJ _ _ ⟨rfl, ?_⟩)) (fun e => kEq_int (kD_i (hJ _ _ ⟨rfl, ?_⟩))))
        · rw [decide_eq_true (Or.inl e)]; simp [e]
        · congr 2; rw [Bool.eq_iff_iff]; simp [e]
end Go.L
namespace Go.L
open Go Go.RowKit Go.Proofs
set_option linter.unusedSimpArgs false
set_option linter.unusedVariables false

abbrev z0 : AV := (0, 0, ⟨#[]⟩)
def typesL (l : List AV) : List Int := l.map (·.1)
def nullL (l : List AV) : Bool := l.any (fun r => r.1 == 0)
def checkL (l : List AV) : Bool := l.all (fun r => checkE r == 0)
def doM (o : Int) (a b : AV) (null : Bool) : AV × Int :=
  if o = 13 then (ofT (andT (knownT a) (knownT b)), 0) else if o = 14 then (ofT (orT (knownT a) (knownT b)), 0)
  else if o = 17 ∨ o = 18 then (boolV ((a.1 == 0) == (o == 17)), 0) else if null then (z0, 0)
  else if o = 16 then (ofT (notT (knownT a)), 0)
  else if o = 6 then (if a.2.2.size + b.2.2.size ≤ 1000 then ((a.1, 0, a.2.2 ++ b.2.2), 0) else (z0, 3))
  else if o = 19 then (iv a.2.2.size, 0) else if 7 ≤ o ∧ o ≤ 12 then (boolV (truthO o (ordV a b)), 0)
  else if wholeE o a.2.1 b.2.1 ≠ 0 then (z0, wholeE o a.2.1 b.2.1) else (iv (wholeZ o a.2.1 b.2.1), 0)
def doR (o : Int) (l : List AV) : AV × Int :=
  if checkL l = false then (z0, 2) else if mkE o (typesL l) ≠ 0 then (z0, mkE o (typesL l)) else doM o (l.headD z0) (l.getLastD z0) (nullL l)

theorem kAppInt {X : Chain → World → Prop} {w w0 : World} {L : List Own} {t e : TypeId} (E : Elt Try.prog t e 1 8) {x : Value} {xs : List Int} {ty : TypeId} {cs : Array Bool} {k : Value → World → Prop} {z : Int} (hS : St w0 (L ++ [.row x e 1 xs.length (xs.map vInt)]) w) (hm : xs.length ≤ 1000000)
    (h : ∀ x' W, St w0 (L ++ [.row x' e 1 (xs ++ [z]).length ((xs ++ [z]).map vInt)]) W → k x' W) : kBuildS ⟨Try.prog, X, false⟩ w t 1 #[(0, .int .i64 z)] fun v W => kBlt ⟨Try.prog, X, false⟩ W .append #[t, t] ty cs #[x, v] k := by
  refine kBuildS_st E hS [vInt z] rfl rfl (by omega) (by omega) (by simp [vInt, Value.cells]) fun y W hS => ?_
  have i0 : ((L ++ [.row x e 1 xs.length (xs.map vInt)]) ++ [.row y e 1 1 (flat [vInt z])])[L.length]? = some (.row x e 1 xs.length (xs.map vInt)) := at_l at_r
  have i1 : ((L ++ [.row x e 1 xs.length (xs.map vInt)]) ++ [.row y e 1 1 (flat [vInt z])])[(L ++ [Own.row x e 1 xs.length (xs.map vInt)]).length]? = some (.row y e 1 1 (flat [vInt z])) := at_r
  refine kAppRow_st E (m := 1) (ys := flat [vInt z]) hS L.length _ i0 i1 (by simp [flat, vInt, Value.cells, Value.oneCell']) (by simp only [maxLen]; omega) (by omega) fun x' W hS => h x' W ?_
  rw [set_l _ at_r, set_r] at hS
  have hS := hS.init
  have e1 : (xs ++ [z]).map vInt = xs.map vInt ++ flat [vInt z] := by simp [flat, vInt, Value.cells]
  rw [e1, List.length_append]; exact hS
theorem kSub1 {c : Cx} {w : World} {t : TypeId} {n : Nat} {k : Value → World → Prop} (h0 : 0 < n) (h1 : n ≤ 1000000) (h : k (.int .i64 ((n - 1 : Nat) : Int)) w) : kBin c w .sub t (.int .i64 n) (.int .i64 1) k := kBin_sub (by
  rw [wrap_id (by omega) (by omega), show ((n : Int) - 1) = ((n - 1 : Nat) : Int) by omega]; exact h)
/-- The rows of l, where they lie. -/
structure At22 (V : World) (pb po : Nat) (l : List AV) : Prop where
  at_ : ∀ i (hi : i < l.length), V.rangeAt pb (po + i * 3) (vVal l[i]).cells.toList
theorem At22.of {w : World} {lo : Option Addr} {l : List AV} (hl : Sl w lo 3 (l.map vVal)) (h0 : 0 < l.length) : ∃ pb po, lo = some ⟨pb, po, none⟩ ∧ ∀ V, Below w.heap.size w V → At22 V pb po l := by
  obtain ⟨pb, po, rfl, hpb, hr⟩ := hl.elem (i := 0) (v := vVal l[0]) (by simp [h0])
  refine ⟨pb, po, rfl, fun V hB => ⟨fun i hi => ?_⟩⟩
  obtain ⟨b', o', he, _, hr'⟩ := (hl.below hB).elem (i := i) (v := vVal l[i]) (by simp [hi])
  cases he; exact hr'
theorem qsame {V : World} {pb po lc : Nat} {l : List AV} {A : Prop} (h : At22 V pb po l) (h0 : 0 < l.length) (h1 : l.length ≤ 1000000) (hA : A) :
    kIa (cQ Try.prog) V 22 (.slice (some ⟨pb, po, none⟩) l.length lc) (.int .i64 0) fun v _ => kSame v (.pointer (some ⟨pb, po + 0 * 3, none⟩)) (
    kLoad (cQ Try.prog) V 49 (.pointer (some ⟨pb, po + 0 * 3, none⟩)) fun v _ => kSame v (vVal l[0]) (
    kBlt (cQ Try.prog) V .len #[22] 3 #[false] #[.slice (some ⟨pb, po, none⟩) l.length lc] fun v _ => kSame v (.int .i64 l.length) (
    kBin (cQ Try.prog) V .sub 3 (.int .i64 l.length) (.int .i64 1) fun v _ => kSame v (.int .i64 ((l.length - 1 : Nat) : Int)) (
    kIa (cQ Try.prog) V 22 (.slice (some ⟨pb, po, none⟩) l.length lc) (.int .i64 ((l.length - 1 : Nat) : Int)) fun v _ => kSame v (.pointer (some ⟨pb, po + (l.length - 1) * 3, none⟩)) (
    kLoad (cQ Try.prog) V 49 (.pointer (some ⟨pb, po + (l.length - 1) * 3, none⟩)) fun v _ => kSame v (vVal l[l.length - 1]) A))))) :=
  kIa22 (i := 0) h0 (kSame_i (kLd49 (h.at_ 0 h0) (kSame_i (kLen22 (kSame_i (kSub1 h0 h1 (kSame_i (kIa22 (by omega) (kSame_i (kLd49 (h.at_ (l.length - 1) (by omega)) (kSame_i hA)))))))))))
theorem qsame2 {V : World} {pb po lc : Nat} {l : List AV} {A : Prop} (h : At22 V pb po l) (h0 : 0 < l.length) (h1 : l.length ≤ 1000000) (hA : A) :
    kBlt (cQ Try.prog) V .len #[22] 3 #[false] #[.slice (some ⟨pb, po, none⟩) l.length lc] fun v _ => kSame v (.int .i64 l.length) (
    kBin (cQ Try.prog) V .sub 3 (.int .i64 l.length) (.int .i64 1) fun v _ => kSame v (.int .i64 ((l.length - 1 : Nat) : Int)) (
    kIa (cQ Try.prog) V 22 (.slice (some ⟨pb, po, none⟩) l.length lc) (.int .i64 ((l.length - 1 : Nat) : Int)) fun v _ => kSame v (.pointer (some ⟨pb, po + (l.length - 1) * 3, none⟩)) (
    kLoad (cQ Try.prog) V 49 (.pointer (some ⟨pb, po + (l.length - 1) * 3, none⟩)) fun v _ => kSame v (vVal l[l.length - 1]) A))) :=
  kLen22 (kSame_i (kSub1 h0 h1 (kSame_i (kIa22 (by omega) (kSame_i (kLd49 (h.at_ (l.length - 1) (by omega)) (kSame_i hA)))))))
theorem kAdd_str {c : Cx} {w : World} {t : TypeId} {a b : ByteArray} {k : Value → World → Prop} (hn : a.size + b.size ≤ 1000000) (h : k (.string (a ++ b)) w) : kBin c w .add t (.string a) (.string b) k := ⟨kVal_pure (fun _ => by
  rw [binOp_string_add]; unfold Op.stringOp
  have : ¬ (((a.size + b.size : Nat) : Int) > IntKind.i64.max) := by
    rw [show IntKind.i64.max = 9223372036854775807 from rfl]; omega
  simp only [if_neg this]; rfl) h⟩
end Go.L
namespace Go.L
open Go Go.RowKit Go.Proofs
set_option linter.unusedSimpArgs false
set_option linter.unusedVariables false

theorem all_bad' {l : List AV} {p : AV → Bool} {i : Nat} (hi : i < l.length) (hp : p l[i] = false) : l.all p = false := by
  rw [List.all_eq_false]; exact ⟨_, List.getElem_mem hi, by simp [hp]⟩
theorem flatI (xs : List Int) : (xs.map vInt).flatMap (·.cells.toList) = xs.map vInt := by
  induction xs with
  | nil => rfl
  | cons a l ih => rw [List.map_cons, List.flatMap_cons, ih]; rfl
theorem refDo24 (o : Int) (l : List AV) (w : World) (lo : Option Addr) (lc : Nat) (hl : Sl w lo 3 (l.map vVal)) (hb : l.length ≤ 100000) (hr : ∀ r ∈ l, Rng r) (R : Ending → World → Prop)
    (h : ∀ W, Below w.heap.size w W → R (.returned (.tuple #[vVal (doR o l).1, .int .i64 (doR o l).2])) W) : Calls Try.prog 24 #[.int .i64 o, .slice lo l.length lc] w R := by
  refine c24 _ _ _ _ _ _ ?_
  unfold vc24
  refine kAlloc_st Try.zeroValue49 (St.start w) fun b4 W hS => ?_
  have hS : St w [.bx b4 49 (vVal z0).cells] W := hS
  have fin : ∀ (V : World) (M : List Own) (r : AV) (e : Int), St w (.bx b4 49 (vVal z0).cells :: M) V → doR o l = (r, e) → kStore (cR Try.prog R) V 49 (.pointer (some ⟨b4, 0, none⟩)) (vVal r) fun W => RetK Try.prog [.cell (.pointer (some ⟨b4, 0, none⟩)) 49, .val (.int .i64 e)] R W := by
    intro V M r e hV he
    refine kStoreA_st hV 0 rfl rfl (by simp [Value.oneCell']) Try.sizeOf49 fun W hS => RetK_agg1 hS 0 rfl rfl ?_
    have := h W hS.below
    rw [he] at this
    exact this
  refine ⟨⟨fun cs V => ∃ (i : Nat) (x : Value), cs = [x, .bool (nullL (l.take i)), .int .i64 i] ∧ i ≤ l.length ∧ (∀ r ∈ l.take i, (checkE r == 0) = true) ∧ St w ([.bx b4 49 (vVal z0).cells] ++ [.row x 3 1 (typesL (l.take i)).length ((typesL (l.take i)).map vInt)]) V,
    fun cs _ => l.length - (match cs with | [_, _, .int _ i] => i.toNat | _ => 0), ⟨0, _, rfl, Nat.zero_le _, by simp, hS.adopt (o := .row (.slice none 0 0) 3 1 0 []) (World.ownsRow_nil _ _ _ _) (fun p hp => by simp at hp; subst hp; right; intro q; cases q)⟩, ?_⟩⟩
  rintro cs ds V ⟨i, x, rfl, hile, hck, hV⟩
  dsimp only [List.getD_cons_zero, List.getD_cons_succ]
  refine kLen22 (kBin_lss (kIf_d (fun e => ?_) (fun e => ?_)))
  · have hil : i < l.length := by omega
    have hlV := hl.below hV.below
    obtain ⟨pb, po, rfl, hpb, hpr⟩ := hlV.elem (i := i) (v := vVal l[i]) (by simp [hil])
    refine kIa22 hil (kLd49 hpr (kCall_i (Try.call64 _ _) (refCheckK l[i] _ _ fun V1 hB1 => kNe_int (kIf_ne (fun e1 => ?_) (fun e1 => ?_)))))
    · refine kBuild_i built49_0 (fin _ [_] z0 2 (hV.bel hB1) ?_)
      exact if_pos (all_bad' hil (by simpa using e1))
    · have hV1 := hV.bel hB1
      have hlV1 := hl.below hV1.below
      obtain ⟨pb', po', he, hat⟩ := At22.of hl (show 0 < l.length by omega)
      cases he
      have hc0 : V1.cell? ⟨pb, po + i * 3, none⟩ = some (.int .i64 l[i].1) := (hat V1 hV1.below).at_ i hil 0 _ rfl
      refine kIa22 hil (kFa49 0 (by omega) (kLdS rfl hc0 (kAppInt (E23 V1) hV1 (by simp [typesL]; omega) fun x' V2 hV2 => ?_)))
      have et : typesL (l.take i) ++ [l[i].1] = typesL (l.take (i + 1)) := by
        unfold typesL; rw [List.take_succ_eq_append_getElem hil, List.map_append]; rfl
      have en : nullL (l.take (i + 1)) = (nullL (l.take i) || (l[i].1 == 0)) := by
        unfold nullL; rw [List.take_succ_eq_append_getElem hil, List.any_append]; simp
      have hck' : ∀ r ∈ l.take (i + 1), (checkE r == 0) = true := by
        intro r hr
        rw [List.take_succ_eq_append_getElem hil] at hr
        rcases List.mem_append.1 hr with hr | hr
        · exact hck r hr
        · simp at hr; subst hr; simpa using e1
      rw [et] at hV2
      refine kIf_b (fun en0 => kBin_add (kD_i ⟨⟨i + 1, x', ?_, hil, hck', hV2⟩, ?_⟩)) (fun en0 => ?_)
      · rw [wrap_id (by omega) (by omega), en, en0]; rfl
      · rw [wrap_id (by omega) (by omega)]; show l.length - ((i : Int) + 1).toNat < l.length - (i : Int).toNat; omega
      · have hc2 : V2.cell? ⟨pb, po + i * 3, none⟩ = some (.int .i64 l[i].1) := (hat V2 hV2.below).at_ i hil 0 _ rfl
        refine kIa22 hil (kFa49 0 (by omega) (kLdS rfl hc2 (kEq_int (kBin_add (kD_i ⟨⟨i + 1, x', ?_, hil, hck', hV2⟩, ?_⟩)))))
        · rw [wrap_id (by omega) (by omega), en, en0]; rfl
        · rw [wrap_id (by omega) (by omega)]; show l.length - ((i : Int) + 1).toNat < l.length - (i : Int).toNat; omega
  · have hil : i = l.length := by omega
    subst hil
    rw [List.take_length] at hck hV ⊢
    have hcl : checkL l = true := List.all_eq_true.2 hck
    have hown : V.ownsRow w.heap.size 3 1 x (typesL l).length ((typesL l).map vInt) := hV.get 1 rfl
    obtain ⟨a, cp, rfl, hls⟩ := Sl.of_owns (base := w.heap.size) (e := 3) (sz := 1) (n := (typesL l).length) (vs := (typesL l).map vInt) (by simp [vInt, Value.cells]) (by rw [flatI]; exact hown) (by simp)
    refine kCall_i (Try.call29 _ _) (refMakes29 o (typesL l) V a cp hls (by simp [typesL]; omega) _ fun V1 hB1 => kExt_0 (kExt_1 (kNe_int (kIf_ne (fun em => ?_) (fun em => ?_)))))
    · refine kBuild_i built49_0 (fin _ [_] z0 _ (hV.bel hB1) ?_)
      unfold doR; rw [if_neg (by simp [hcl]), if_pos em]
    · have hV1 := hV.bel hB1
      have hV1 : St w [.bx b4 49 (vVal z0).cells] V1 := hV1.init
      have hdo : doR o l = doM o (l.headD z0) (l.getLastD z0) (nullL l) := by
        unfold doR; rw [if_neg (by simp [hcl]), if_neg (by omega)]
      have hpos : 0 < l.length := by
        rcases Nat.eq_zero_or_pos l.length with q | q
        · have : l = [] := List.eq_nil_of_length_eq_zero q
          subst this
          have hno : (2 : Int) = 0 := by
            rw [← em]; symm; unfold mkE; refine if_pos fun q => ?_
            rw [many12 o ⟨q.1, q.2.1⟩] at q
            have := q.2.2; simp [typesL] at this; split at this <;> omega
          omega
        · exact q
      obtain ⟨pb, po, rfl, hat⟩ := At22.of hl hpos
      have hhead : l.headD z0 = l[0] := by cases l with | nil => simp at hpos | cons a t => rfl
      have hlast : l.getLastD z0 = l[l.length - 1] := by
        rw [List.getLastD_eq_getLast?, List.getLast?_eq_getElem?, List.getElem?_eq_getElem (by omega)]; rfl
      rw [hhead, hlast] at hdo
      have hra := hr _ (List.getElem_mem hpos)
      have hrb := hr _ (List.getElem_mem (show l.length - 1 < l.length by omega))
      have hca := hck _ (List.getElem_mem hpos)
      have hcb := hck _ (List.getElem_mem (show l.length - 1 < l.length by omega))
      refine kDrawn_i (kDrawn_i (kJn_inv (fun cs V => ∃ p11 p12, cs.getD 8 undef = vVal l[l.length - 1] ∧ cs.getD 9 undef = .pointer (some ⟨p11, 0, none⟩) ∧ cs.getD 10 undef = .pointer (some ⟨p12, 0, none⟩) ∧ St w [.bx b4 49 (vVal z0).cells, .bx p11 49 (vVal l[0]).cells, .bx p12 49 (vVal z0).cells] V) ?_ ?_))
      · rintro cs V ⟨p11, p12, e8, e9, e10, hV⟩
        rw [e8, e9, e10]
        clear e8 e9 e10 hhead hlast
        generalize l[0] = a at hdo hra hca hV ⊢
        generalize l[l.length - 1] = b at hdo hrb hcb hV ⊢
        have hca : checkE a = 0 := by simpa using hca
        have hcb : checkE b = 0 := by simpa using hcb
        have hsa := checkE_size hca
        have hsb := checkE_size hcb
        generalize nullL l = nl at hdo ⊢
        refine kStoreA_st hV 2 rfl rfl (by simp [Value.oneCell']) Try.sizeOf49 fun W2 hS => ?_
        have hS : St w [.bx b4 49 (vVal z0).cells, .bx p11 49 (vVal a).cells, .bx p12 49 (vVal b).cells] W2 := hS
        have fin' : ∀ (V : World) (r : AV) (e : Int), St w [.bx b4 49 (vVal z0).cells, .bx p11 49 (vVal a).cells, .bx p12 49 (vVal b).cells] V → doM o a b nl = (r, e) → kStore (cR Try.prog R) V 49 (.pointer (some ⟨b4, 0, none⟩)) (vVal r) fun W => RetK Try.prog [.cell (.pointer (some ⟨b4, 0, none⟩)) 49, .val (.int .i64 e)] R W :=
          fun V r e hV he => fin V _ r e hV (hdo.trans he)
        refine kJn_inv (fun cs V => St w [.bx b4 49 (vVal z0).cells, .bx p11 49 (vVal a).cells, .bx p12 49 (vVal b).cells] V ∧ (o ≠ 13 ∧ o ≠ 14 ∧ ¬ (o = 17 ∨ o = 18) ∧ o ≠ 16 ∧ o ≠ 6 ∧ o ≠ 19 ∧ ¬ (7 ≤ o ∧ o ≤ 12)) ∧ nl = false) ?_ ?_
        · rintro cs V ⟨hV, ⟨n13, n14, n17, n16, n6, n19, n7⟩, rfl⟩ ds
          have hd : doM o a b false = if wholeE o a.2.1 b.2.1 ≠ 0 then (z0, wholeE o a.2.1 b.2.1) else (iv (wholeZ o a.2.1 b.2.1), 0) := by
            unfold doM; rw [if_neg n13, if_neg n14, if_neg n17, if_neg (by simp), if_neg n16, if_neg n6, if_neg n19, if_neg n7]
          refine kFa49 1 (by omega) (kLd hV 1 rfl rfl rfl (kFa49 1 (by omega) (kLd hV 2 rfl rfl rfl (kCall_i (Try.call72 _ _) (whole72 o a.2.1 b.2.1 hra hrb _ _ (kExt_0 (kExt_1 (kNe_int (kIf_ne (fun e => ?_) (fun e => ?_))))))))))
          · exact kBuild_i built49_0 (fin' _ z0 _ hV (by rw [hd, if_pos e]))
          · have e' : wholeV o a.2.1 b.2.1 = wholeZ o a.2.1 b.2.1 := if_pos e
            exact kBuild_i (built49n _ _) (fin' _ (iv (wholeV o a.2.1 b.2.1)) _ hV (by rw [hd, if_neg (fun q => q e), e']))
        · intro J hJ
          refine kEq_int (kIf_eq (fun e13 => ?_) (fun n13 => kEq_int (kIf_eq (fun e14 => ?_) (fun n14 => ?_))))
          · refine kDrawn_i (kDrawn_i (kLoadA_st (c := cQ Try.prog) hS 1 rfl Try.underlying49 rfl Try.sizeOf49 rfl (kLoadA_st (c := cQ Try.prog) hS 2 rfl Try.underlying49 rfl Try.sizeOf49 rfl (kDrew_st hS fun W hS => kCall_i (Try.call66 _ _) (Known66 a _ _ fun W hB => ?_)))))
            refine kLoadA_st (c := cQ Try.prog) (hS.bel hB) 2 rfl Try.underlying49 rfl Try.sizeOf49 rfl (kSame_i (kDrew_st (hS.bel hB) fun W hS => kCall_i (Try.call66 _ _) (Known66 b _ _ fun W hB => kDrew_st (hS.bel hB) fun W hS => kCall_i (Try.call65 _ _) (And65 _ _ _ _ (kDrew_st hS fun W hS => kCall_i (Try.call51 _ _) (Of51 _ _ _ fun W hB => kDrew_st (hS.bel hB) fun W hS => fin' _ _ _ hS ?_))))))
            unfold doM; rw [if_pos e13]
          · refine kDrawn_i (kDrawn_i (kLoadA_st (c := cQ Try.prog) hS 1 rfl Try.underlying49 rfl Try.sizeOf49 rfl (kLoadA_st (c := cQ Try.prog) hS 2 rfl Try.underlying49 rfl Try.sizeOf49 rfl (kDrew_st hS fun W hS => kCall_i (Try.call66 _ _) (Known66 a _ _ fun W hB => ?_)))))
            refine kLoadA_st (c := cQ Try.prog) (hS.bel hB) 2 rfl Try.underlying49 rfl Try.sizeOf49 rfl (kSame_i (kDrew_st (hS.bel hB) fun W hS => kCall_i (Try.call66 _ _) (Known66 b _ _ fun W hB => kDrew_st (hS.bel hB) fun W hS => kCall_i (Try.call67 _ _) (Or67 _ _ _ _ (kDrew_st hS fun W hS => kCall_i (Try.call51 _ _) (Of51 _ _ _ fun W hB => kDrew_st (hS.bel hB) fun W hS => fin' _ _ _ hS ?_))))))
            unfold doM; rw [if_neg n13, if_pos e14]
          · refine kJn_inv (fun cs V => V = W2 ∧ cs = [.bool (decide (o = 17 ∨ o = 18))]) ?_ ?_
            · rintro cs V ⟨rfl, rfl⟩ ds
              refine kIf_d (fun e17 => ?_) (fun n17 => kIf_b (fun en => ?_) (fun en => kEq_int (kIf_eq (fun e16 => ?_) (fun n16 => kEq_int (kIf_eq (fun e6 => ?_) (fun n6 => kEq_int (kIf_eq (fun e19 => ?_) (fun n19 => ?_))))))))
              · refine kFa49 0 (by omega) (kLd hS 1 rfl rfl rfl (kEq_int (kEq_int (kEq_b4 (kCall_i (Try.call68 _ _) (Bool68 _ _ _ fun W hB => fin' _ _ _ (hS.bel hB) ?_))))))
                unfold doM; rw [if_neg n13, if_neg n14, if_pos e17]
              · refine kBuild_i built49_0 (fin' _ z0 _ hS ?_)
                unfold doM; rw [if_neg n13, if_neg n14, if_neg n17, if_pos en]
              · refine kLoadA_st (c := ⟨Try.prog, _, false⟩) hS 1 rfl Try.underlying49 rfl Try.sizeOf49 rfl (kCall_i (Try.call66 _ _) (Known66 a _ _ fun W hB => kCall_i (Try.call69 _ _) (Not69 _ _ _ (kCall_i (Try.call51 _ _) (Of51 _ _ _ fun W' hB' => fin' _ _ _ ((hS.bel hB).bel hB') ?_)))))
                unfold doM; rw [if_neg n13, if_neg n14, if_neg n17, if_neg (by simp [en]), if_pos e16]
              · have hd : doM o a b nl = if a.2.2.size + b.2.2.size ≤ 1000 then ((a.1, 0, a.2.2 ++ b.2.2), 0) else (z0, 3) := by
                  unfold doM; rw [if_neg n13, if_neg n14, if_neg n17, if_neg (by simp [en]), if_neg n16, if_pos e6]
                refine kFa49 2 (by omega) (kLd hS 1 rfl rfl rfl (kLen9 (kFa49 2 (by omega) (kLd hS 2 rfl rfl rfl (kLen9 (kBin_add (kBin_gtr ?_)))))))
                rw [wrap_id (by omega) (by omega)]
                refine kIf_d (fun e => ?_) (fun e => ?_)
                · exact kBuild_i built49_0 (fin' _ z0 _ hS (by rw [hd, if_neg (by omega)]))
                · refine kFa49 0 (by omega) (kLd hS 1 rfl rfl rfl (kFa49 2 (by omega) (kLd hS 1 rfl rfl rfl (kFa49 2 (by omega) (kLd hS 2 rfl rfl rfl (kAdd_str (by omega) (kBuild_i (built49_02 _ _) (fin' _ (a.1, 0, a.2.2 ++ b.2.2) _ hS (by rw [hd, if_pos (by omega)])))))))))
              · refine kFa49 2 (by omega) (kLd hS 1 rfl rfl rfl (kLen9 (kBuild_i (built49n _ _) (fin' _ (iv _) _ hS ?_))))
                unfold doM; rw [if_neg n13, if_neg n14, if_neg n17, if_neg (by simp [en]), if_neg n16, if_neg n6, if_pos e19]
              · refine kJn_inv (fun cs V' => V' = V ∧ cs = [.bool (decide (7 ≤ o ∧ o ≤ 12))]) ?_ ?_
                · rintro cs V' ⟨rfl, rfl⟩ ds
                  refine kIf_d (fun e7 => ?_) (fun n7 => kD_i (hJ _ _ ⟨hS, ⟨n13, n14, n17, n16, n6, n19, n7⟩, en⟩))
                  refine kLoadA_st (c := ⟨Try.prog, _, false⟩) hS 1 rfl Try.underlying49 rfl Try.sizeOf49 rfl (kLoadA_st (c := ⟨Try.prog, _, false⟩) hS 2 rfl Try.underlying49 rfl Try.sizeOf49 rfl (kCall_i (Try.call71 _ _) (ord71 a b _ _ fun W hB => kCall_i (Try.call70 _ _) (truth70 _ _ _ _ (kCall_i (Try.call68 _ _) (Bool68 _ _ _ fun W' hB' => fin' _ _ _ ((hS.bel hB).bel hB') ?_))))))
                  unfold doM; rw [if_neg n13, if_neg n14, if_neg n17, if_neg (by simp [en]), if_neg n16, if_neg n6, if_neg n19, if_pos e7]
                · intro J hJ
                  refine kBin_geq (kIf_d (fun e => kBin_leq (kD_i (hJ _ _ ⟨rfl, ?_⟩))) (fun e => kD_i (hJ _ _ ⟨rfl, ?_⟩)))
                  · congr 2; rw [decide_eq_decide]; omega
                  · rw [decide_eq_false (fun q => e q.1)]
            · intro J hJ
              refine kEq_int (kIf_eq (fun e => kD_i (hJ _ _ ⟨rfl, ?_⟩)) (fun e => kEq_int (kD_i (hJ _ _ ⟨rfl, ?_⟩))))
              · rw [decide_eq_true (Or.inl e)]
              · congr 2; rw [Bool.eq_iff_iff]; simp [e]
      · intro J hJ
        have hatV := hat V1 hV1.below
        refine kIa22 (i := 0) hpos (kLd49 (hatV.at_ 0 hpos) (kLen22 (kSub1 hpos (by omega) (kIa22 (by omega) (kLd49 (hatV.at_ (l.length - 1) (by omega)) (kBoth_i (kDrew_st hV1 fun W2 hS2 => ?_) (kDrew_st hV1 fun W2 hS2 => ?_)))))))
        · refine kAlloc_st Try.zeroValue49 hS2 fun p11 W3 hS3 => qsame (hat W3 hS3.below) hpos (by omega) (kDrew_st hS3 fun W4 hS4 => kAlloc_st Try.zeroValue49 hS4 fun p12 W5 hS5 => qsame (hat W5 hS5.below) hpos (by omega) (kDrew_st hS5 fun W6 hS6 => ?_))
          have hS6 : St w [.bx b4 49 (vVal z0).cells, .bx p11 49 (vVal z0).cells, .bx p12 49 (vVal z0).cells] W6 := hS6
          refine kStoreA_st hS6 1 rfl rfl (by simp [Value.oneCell']) Try.sizeOf49 fun W7 hS7 => qsame2 (hat W7 hS7.below) hpos (by omega) (kDrew_st hS7 fun W8 hS8 => hJ _ _ ⟨p11, p12, rfl, rfl, rfl, hS8⟩)
        · refine kAlloc_st Try.zeroValue49 hS2 fun p12 W3 hS3 => qsame (hat W3 hS3.below) hpos (by omega) (kDrew_st hS3 fun W4 hS4 => kAlloc_st Try.zeroValue49 hS4 fun p11 W5 hS5 => qsame (hat W5 hS5.below) hpos (by omega) (kDrew_st hS5 fun W6 hS6 => ?_))
          have hS6 : St w [.bx b4 49 (vVal z0).cells, .bx p12 49 (vVal z0).cells, .bx p11 49 (vVal z0).cells] W6 := hS6
          have hS6 : St w [.bx b4 49 (vVal z0).cells, .bx p11 49 (vVal z0).cells, .bx p12 49 (vVal z0).cells] W6 := hS6.perm (List.Perm.cons _ (List.Perm.swap _ _ _))
          refine kStoreA_st hS6 1 rfl rfl (by simp [Value.oneCell']) Try.sizeOf49 fun W7 hS7 => qsame2 (hat W7 hS7.below) hpos (by omega) (kDrew_st hS7 fun W8 hS8 => hJ _ _ ⟨p11, p12, rfl, rfl, rfl, hS8⟩)
end Go.L
namespace Go.L
open Go Go.RowKit Go.Proofs
set_option linter.unusedSimpArgs false
set_option linter.unusedVariables false

def doesEs : Array MapEntry := #[{ key := .int .i64 1, val := .func (.func 99) #[] #[], born := 0 }, { key := .int .i64 2, val := .func (.func 100) #[] #[], born := 1 }, { key := .int .i64 3, val := .func (.func 101) #[] #[], born := 2 }, { key := .int .i64 4, val := .func (.func 102) #[] #[], born := 3 }, { key := .int .i64 5, val := .func (.func 103) #[] #[], born := 4 }, { key := .int .i64 15, val := .func (.func 104) #[] #[], born := 5 }, { key := .int .i64 20, val := .func (.func 105) #[] #[], born := 6 }, { key := .int .i64 6, val := .func (.func 106) #[] #[], born := 7 }, { key := .int .i64 19, val := .func (.func 107) #[] #[], born := 8 }]
theorem does63 (w : World) (R : Ending → World → Prop) (h : ∀ b W, Below w.heap.size w W → w.heap.size ≤ b → W.heap[b]? = some (.map doesEs 9) → R (.returned (.map (some b))) W) : Calls Try.prog 63 #[] w R := by
  refine c63 _ _ ?_
  unfold vc63
  refine kMkMap_st (St.start w) fun b W hS => ?_
  refine kUpd_st hS 0 rfl Try.underlying107 Try.underlying53 rfl rfl fun W hS => ?_
  refine kUpd_st hS 0 rfl Try.underlying107 Try.underlying53 rfl rfl fun W hS => ?_
  refine kUpd_st hS 0 rfl Try.underlying107 Try.underlying53 rfl rfl fun W hS => ?_
  refine kUpd_st hS 0 rfl Try.underlying107 Try.underlying53 rfl rfl fun W hS => ?_
  refine kUpd_st hS 0 rfl Try.underlying107 Try.underlying53 rfl rfl fun W hS => ?_
  refine kUpd_st hS 0 rfl Try.underlying107 Try.underlying53 rfl rfl fun W hS => ?_
  refine kUpd_st hS 0 rfl Try.underlying107 Try.underlying53 rfl rfl fun W hS => ?_
  refine kUpd_st hS 0 rfl Try.underlying107 Try.underlying53 rfl rfl fun W hS => ?_
  refine kUpd_st hS 0 rfl Try.underlying107 Try.underlying53 rfl rfl fun W hS => ?_
  exact h b W hS.below (hS.get 0 rfl).1 (hS.get 0 rfl).2
def fnP (o : Int) : FuncId := if o = 1 then 99 else if o = 2 then 100 else if o = 3 then 101 else if o = 4 then 102 else if o = 5 then 103 else if o = 15 then 104 else if o = 20 then 105 else if o = 6 then 106 else 107
def inDoes (o : Int) : Prop := o = 1 ∨ o = 2 ∨ o = 3 ∨ o = 4 ∨ o = 5 ∨ o = 15 ∨ o = 20 ∨ o = 6 ∨ o = 19
theorem does_find (o : Int) (h : inDoes o) : ∃ j, Instr.findNow (.int .i64) (.int .i64 o) doesEs.toList 0 = some (some (j, .func (.func (fnP o)) #[] #[])) := by
  rcases h with rfl | rfl | rfl | rfl | rfl | rfl | rfl | rfl | rfl <;> exact ⟨_, rfl⟩
def pairE (o : Int) (a b : AV) : Int := if o = 6 then catE a b else if o = 19 then 0 else wholeE o a.2.1 b.2.1
def pairV (o : Int) (a b : AV) : AV := if o = 6 then (a.1, 0, a.2.2 ++ b.2.2) else if o = 19 then iv a.2.2.size else iv (wholeZ o a.2.1 b.2.1)
theorem does_call (o : Int) (a b : AV) (ho : inDoes o) (ha : Rng a) (hb : Rng b) (hsa : a.2.2.size ≤ 1000) (hsb : b.2.2.size ≤ 1000) (h20 : o = 20 → a = iv a.2.1) (w : World) (R : Ending → World → Prop) (h : RetE w (pairV o a b) (pairE o a b) R) :
    (∀ args w, (callFunc (fnP o) args).run Try.prog w = .ok (.enter (fnP o) args) w) ∧ Calls Try.prog (fnP o) #[pVal a b] w R := by
  rcases ho with rfl | rfl | rfl | rfl | rfl | rfl | rfl | rfl | rfl
  · exact ⟨Try.call99, add99 a b ha hb w R h⟩
  · exact ⟨Try.call100, sub100 a b ha hb w R h⟩
  · exact ⟨Try.call101, mul101 a b ha hb w R h⟩
  · refine ⟨Try.call102, div102 a b ha hb w R ?_⟩
    have e : divE a.2.1 b.2.1 = pairE 4 a b := by
      show divE a.2.1 b.2.1 = wholeE 4 a.2.1 b.2.1
      unfold divE wholeE
      by_cases q : b.2.1 = 0
      · rw [if_pos q, if_pos ⟨.inl rfl, q⟩]
      · rw [if_neg q, if_neg (fun r => q r.2)]; rfl
    rw [e]; exact h
  · refine ⟨Try.call103, mod103 a b ha hb w R ?_⟩
    have e : modE b.2.1 = pairE 5 a b := by
      show modE b.2.1 = wholeE 5 a.2.1 b.2.1
      unfold modE wholeE
      by_cases q : b.2.1 = 0
      · rw [if_pos q, if_pos ⟨.inr rfl, q⟩]
      · rw [if_neg q, if_neg (fun r => q r.2)]
        exact (if_pos (tmod_big (x := a.2.1) hb q)).symm
    rw [e]; exact h
  · exact ⟨Try.call104, neg104 a b ha w R h⟩
  · refine ⟨Try.call105, abs105 a b ha (h20 rfl) w R ?_⟩
    have e : (if a.2.1 < 0 then fitE (-a.2.1) else 0) = pairE 20 a b := by
      show _ = fitE (if a.2.1 < 0 then -a.2.1 else a.2.1)
      by_cases q : a.2.1 < 0
      · rw [if_pos q, if_pos q]
      · rw [if_neg q, if_neg q]; exact (if_pos ha).symm
    rw [e]; exact h
  · exact ⟨Try.call106, cat106 a b (by omega) (by omega) w R h⟩
  · exact ⟨Try.call107, length107 a b w R (h.ok rfl)⟩
theorem Do2_56 (r : AV) (w : World) (R : Ending → World → Prop) (h : ∀ W, Below w.heap.size w W → R (.returned (.bool (checkE r == 0))) W) : Calls Try.prog 56 #[vVal r] w R := by
  refine c56 _ _ _ _ _ ?_
  unfold vc56
  refine kBox_st (St.start w) fun b W hS => kLoadA_st (c := ⟨Try.prog, _, false⟩) hS 0 rfl Try.underlying49 rfl Try.sizeOf49 rfl (kCall_i (Try.call57 _ _) (check57 r _ _ fun W hB => kEq_int (h W (hS.bel hB).below)))
/-- What the kinds that an operation takes say of its values. -/
theorem kinds13 {o : Int} {l : List AV} (hm : mkE o (typesL l) = 0) : (1 ≤ o ∧ o ≤ 20) ∧ ((∃ a, l = [a] ∧ ¬ o ≤ 14 ∧ okT o a.1 = true ∧ 0 ≤ a.1 ∧ a.1 ≤ 4) ∨ (∃ a b, l = [a, b] ∧ o ≤ 14 ∧ okT o a.1 = true ∧ okT o b.1 = true ∧ 0 ≤ a.1 ∧ a.1 ≤ 4 ∧ 0 ≤ b.1 ∧ b.1 ≤ 4)) := by
  unfold mkE at hm
  by_cases h1 : 1 ≤ o ∧ o ≤ 20 ∧ ((typesL l).length : Int) = (infoO o).2.1
  · rw [if_neg (fun q => q h1)] at hm
    by_cases h2 : (typesL l).all rngT = false
    · rw [if_pos h2] at hm; omega
    · rw [if_neg h2] at hm
      by_cases h3 : (typesL l).all (okT o) = false
      · rw [if_pos h3] at hm; omega
      · refine ⟨⟨h1.1, h1.2.1⟩, ?_⟩
        simp only [Bool.not_eq_false] at h2 h3
        have h2 := List.all_eq_true.1 h2
        have h3 := List.all_eq_true.1 h3
        rcases shape12 ⟨h1.1, h1.2.1⟩ h1.2.2 with ⟨t, ht, h14⟩ | ⟨t, u, ht, h14⟩
        · match l, ht with
          | [a], ht =>
            have r1 := h2 a.1 (by simp [typesL]); simp [rngT] at r1
            exact .inl ⟨a, rfl, h14, h3 a.1 (by simp [typesL]), r1.1, r1.2⟩
        · match l, ht with
          | [a, b], ht =>
            have r1 := h2 a.1 (by simp [typesL]); simp [rngT] at r1
            have r2 := h2 b.1 (by simp [typesL]); simp [rngT] at r2
            exact .inr ⟨a, b, rfl, h14, h3 a.1 (by simp [typesL]), h3 b.1 (by simp [typesL]), r1.1, r1.2, r2.1, r2.2⟩
  · rw [if_pos h1] at hm; omega
end Go.L
namespace Go.L
open Go Go.RowKit Go.Proofs
set_option linter.unusedSimpArgs false
set_option linter.unusedVariables false

theorem known_eq {r : AV} (hc : checkE r = 0) (h : r.1 = 0 ∨ r.1 = 1) : knownP r = knownT r ∧ (knownT r = 0 ∨ knownT r = 1 ∨ knownT r = 2) := by
  have hT : knownT r = if r.1 = 0 then 2 else if r.1 = 1 then r.2.1 else -1 := if_neg (by omega)
  have hsz := checkE_size hc
  have hc2 : ¬ (r.1 < 0 ∨ 4 < r.1 ∨ (r.1 < 3 ∧ r.2.2 ≠ ⟨#[]⟩) ∨ (r.1 ≠ 1 ∧ r.1 ≠ 2 ∧ r.2.1 ≠ 0) ∨ (r.1 = 1 ∧ r.2.1 ≠ 0 ∧ r.2.1 ≠ 1)) := by
    intro q
    have := hc
    unfold checkE at this
    rw [if_neg (by omega), if_pos q] at this
    omega
  rcases h with h | h
  · have h1 : r.2.1 = 0 := Decidable.byContradiction fun q => hc2 (.inr (.inr (.inr (.inl ⟨by omega, by omega, q⟩))))
    have h2 : r.2.2 = ⟨#[]⟩ := Decidable.byContradiction fun q => hc2 (.inr (.inr (.inl ⟨by omega, q⟩)))
    have hz : r = (0, 0, ⟨#[]⟩) := Prod.ext h (Prod.ext h1 h2)
    rw [hT, if_pos h]
    exact ⟨if_pos hz, .inr (.inr rfl)⟩
  · have hne : r ≠ (0, 0, ⟨#[]⟩) := fun q => by rw [q] at h; cases h
    have hb : r.2.1 = 0 ∨ r.2.1 = 1 := Decidable.byContradiction fun q => hc2 (.inr (.inr (.inr (.inr ⟨h, by omega, by omega⟩))))
    rw [hT, if_neg (by omega), if_pos h]
    refine ⟨?_, by omega⟩
    unfold knownP
    rw [if_neg hne, if_neg (by omega)]
theorem log13 {x y : Int} (hx : x = 0 ∨ x = 1 ∨ x = 2) (hy : y = 0 ∨ y = 1 ∨ y = 2) : logT 13 x y = andT x y := by
  rcases hx with rfl | rfl | rfl <;> rcases hy with rfl | rfl | rfl <;> decide
theorem log14 {x y : Int} (hx : x = 0 ∨ x = 1 ∨ x = 2) (hy : y = 0 ∨ y = 1 ∨ y = 2) : logT 14 x y = orT x y := by
  rcases hx with rfl | rfl | rfl <;> rcases hy with rfl | rfl | rfl <;> decide
theorem log16 (x y : Int) : logT 16 x y = notT x := by simp [logT]
theorem RetK_aggc {R : Ending → World → Prop} {w w0 : World} {L : List Own} (hS : St w0 L w) (i j : Nat) {b b5 : Nat} {cs : Array Value} {v : Value} (hi : L[i]? = some (.bx b 49 cs)) (hn : cs.size = 3) (hj : L[j]? = some (.bx b5 28 #[v])) (h : R (.returned (.tuple #[.agg cs, v])) w) : RetK Try.prog [.cell (.pointer (some ⟨b, 0, none⟩)) 49, .cell (.pointer (some ⟨b5, 0, none⟩)) 28] R w := by
  refine ⟨.tuple #[.agg cs, v], ?_, h⟩
  have := run_loadVar_row (P := Try.prog) w b 49 49 cs (0, 0) _ (hS.get i hi).2 Try.underlying49 rfl (by rw [info_of (Try.typeInfo49 w), hn]; rfl)
  have hc := hS.cell j hj 0 rfl
  have h28 : (loadVar 28 ⟨b5, 0, none⟩).run Try.prog w = .ok v w := by simp [loadVar, scal_agg (t := 28) rfl, hc]
  simp [resSem, asAddr, this, h28]
theorem tests_atV {w : World} {f : FuncId} {caps : Array Value} {l : List AV} {p : AV → Bool} (hcall : ∀ args w, (callFunc f args).run Try.prog w = .ok (.enter f args) w)
    (h : ∀ (t : AV) (W : World) (R : Ending → World → Prop), Below w.heap.size w W → (∀ W', Below W.heap.size W W' → R (.returned (.bool (p t))) W') → Calls Try.prog f (#[vVal t] ++ caps) W R) : Tests w f caps (l.map vVal) (fun i => (l[i]?.map p).getD false) := by
  refine ⟨hcall, fun i v hv W R hB hR => ?_⟩
  rw [List.getElem?_map] at hv
  cases e : l[i]? with
  | none => rw [e] at hv; cases hv
  | some t =>
    rw [e] at hv
    cases hv
    simp only [e] at hR
    exact h t W R hB hR
theorem built101ab (a b : AV) : Try.prog.built 101 [(0, vVal a), (1, vVal b)] = some (pCells a b) := by kernel_rfl
theorem built103 (a b : AV) (o : Int) : Try.prog.built 103 [(0, .agg (pCells a b)), (1, .int .i64 o)] = some (sCells a b o) := by kernel_rfl
abbrev doD (b4 b5 : Nat) : List Deferred := [{ target := .fn (.func 52) #[], args := #[.pointer (some ⟨b5, 0, none⟩), .func (.func 53) #[] #[.pointer (some ⟨b4, 0, none⟩)]] }]
abbrev doRs (b4 b5 : Nat) : List RV := [.cell (.pointer (some ⟨b4, 0, none⟩)) 49, .cell (.pointer (some ⟨b5, 0, none⟩)) 28]
/-- The deferred part of Do where it has raised. -/
theorem do_pan {w V : World} {b4 b5 : Nat} {v : AV} {x n : Int} {M : List Own} {R : Ending → World → Prop} (hS : St w (.bx b4 49 (vVal v).cells :: .bx b5 28 #[.int .i64 x] :: M) V) (h : ∀ W, Below w.heap.size w W → R (.returned (.tuple #[vVal z0, .int .i64 n])) W) :
    Lv Try.prog (doRs b4 b5) R (doD b4 b5) (.panicking [pe n false]) V := by
  refine Lv_pan52 hS 1 rfl (fun W => St w (.bx b4 49 (vVal z0).cells :: .bx b5 28 #[.int .i64 n] :: M) W) Try.call53 (fun W hS => ?_) (fun W hS => RetK_aggc hS 0 1 rfl rfl rfl (h W hS.below))
  refine c53 _ _ _ ?_
  unfold vc53
  exact kBuild_i built49_0 (kStoreA_st hS 0 rfl rfl (by simp [Value.oneCell']) Try.sizeOf49 fun W hS => ⟨rfl, hS⟩)
/-- .. and where it answers. -/
theorem do_fin {w V : World} {b4 b5 : Nat} {v r : AV} {x : Int} {M : List Own} {X : Chain → World → Prop} {R : Ending → World → Prop} (hS : St w (.bx b4 49 (vVal v).cells :: .bx b5 28 #[.int .i64 x] :: M) V) (h : ∀ W, Below w.heap.size w W → R (.returned (.tuple #[vVal r, .int .i64 0])) W) :
    kStore ⟨Try.prog, X, false⟩ V 49 (.pointer (some ⟨b4, 0, none⟩)) (vVal r) fun W => kStore ⟨Try.prog, X, false⟩ W 28 (.pointer (some ⟨b5, 0, none⟩)) (.int .i64 0) fun W => Lv Try.prog (doRs b4 b5) R (doD b4 b5) .returning W := by
  refine kStoreA_st hS 0 rfl rfl (by simp [Value.oneCell']) Try.sizeOf49 fun W hS => kSt hS 1 rfl (by simp) rfl rfl rfl fun W hS => Lv_ret52 (RetK_aggc hS 0 1 rfl rfl rfl (h W hS.below))
end Go.L
namespace Go.L
open Go Go.RowKit Go.Proofs
set_option linter.unusedSimpArgs false
set_option linter.unusedVariables false

theorem kLd101 {X : Chain → World → Prop} {q : Bool} {w0 w : World} {L : List Own} {k : Value → World → Prop} (hS : St w0 L w) (i : Nat) {p : Nat} {a b : AV} {o : Int} (hi : L[i]? = some (.bx p 103 (sCells a b o))) (h : k (pVal a b) w) : kLoad ⟨Try.prog, X, q⟩ w 101 (.pointer (some ⟨p, 0, none⟩)) k := by
  refine kLoad_agg (c := ⟨Try.prog, X, q⟩) (cs := (pCells a b).toList) ?_ Try.underlying101 rfl (fun w => Try.typeInfo101 w) rfl h
  intro j v hj
  match j, hj with
  | 0, hj => cases hj; exact hS.cell i hi 0 rfl
  | 1, hj => cases hj; exact hS.cell i hi 1 rfl
  | 2, hj => cases hj; exact hS.cell i hi 2 rfl
  | 3, hj => cases hj; exact hS.cell i hi 3 rfl
  | 4, hj => cases hj; exact hS.cell i hi 4 rfl
  | 5, hj => cases hj; exact hS.cell i hi 5 rfl
theorem logic_kind {o t : Int} (ho : o = 13 ∨ o = 14 ∨ o = 16) (h : okT o t = true) : t = 0 ∨ t = 1 := by
  rcases ho with rfl | rfl | rfl <;> (simp [okT, infoO, infoT] at h; omega)
theorem abs_kind {r : AV} (h : okT 20 r.1 = true) (h0 : r.1 ≠ 0) (hc : checkE r = 0) : r = iv r.2.1 := by
  have h2 : r.1 = 2 := by simp [okT, infoO, infoT] at h; omega
  have hsz := checkE_size hc
  have hs : r.2.2 = ⟨#[]⟩ := Decidable.byContradiction fun q => by
    unfold checkE at hc
    rw [if_neg (by omega), if_pos (.inr (.inr (.inl ⟨by omega, q⟩)))] at hc
    omega
  exact Prod.ext h2 (Prod.ext rfl hs)
theorem doM_pair {o : Int} {a b : AV} (n13 : o ≠ 13) (n14 : o ≠ 14) (n17 : ¬ (o = 17 ∨ o = 18)) (n16 : o ≠ 16) (n7 : ¬ (7 ≤ o ∧ o ≤ 12)) : doM o a b false = if pairE o a b = 0 then (pairV o a b, 0) else (z0, pairE o a b) := by
  unfold doM; rw [if_neg n13, if_neg n14, if_neg n17, if_neg (by simp), if_neg n16]
  by_cases e6 : o = 6
  · unfold pairE pairV catE; simp only [if_pos e6]
    by_cases q : a.2.2.size + b.2.2.size ≤ 1000 <;> simp [q]
  · rw [if_neg e6]
    by_cases e19 : o = 19
    · rw [if_pos e19]; unfold pairE pairV; simp only [if_neg e6, if_pos e19, if_true]
    · rw [if_neg e19, if_neg n7]; unfold pairE pairV; simp only [if_neg e6, if_neg e19]
      by_cases q : wholeE o a.2.1 b.2.1 = 0 <;> simp [q]
theorem Do23 (o : Int) (l : List AV) (w : World) (lo : Option Addr) (lc : Nat) (hl : Sl w lo 3 (l.map vVal)) (hb : l.length ≤ 100000) (hr : ∀ r ∈ l, Rng r) (R : Ending → World → Prop)
    (h : ∀ W, Below w.heap.size w W → R (.returned (.tuple #[vVal (doR o l).1, .int .i64 (doR o l).2])) W) : Calls Try.prog 23 #[.int .i64 o, .slice lo l.length lc] w R := by
  refine c23 _ _ _ _ _ _ ?_
  unfold vc23
  refine kAlloc_st Try.zeroValue49 (St.start w) fun b4 W hS => kAlloc_st Try.zeroValue28 hS fun b5 W hS => ?_
  have hS : St w [.bx b4 49 (vVal z0).cells, .bx b5 28 #[.int .i64 0]] W := hS
  dsimp only
  have pan : ∀ (V : World) (M : List Own) (n : Int), St w (.bx b4 49 (vVal z0).cells :: .bx b5 28 #[.int .i64 0] :: M) V → doR o l = (z0, n) → Lv Try.prog (doRs b4 b5) R (doD b4 b5) (.panicking [pe n false]) V := by
    intro V M n hV he
    exact do_pan (v := z0) hV fun W hB => by have := h W hB; rw [he] at this; exact this
  refine kCall_i (Try.call55 _ _) (all55 l W lo lc (hl.below hS.below) (by omega) (p := fun r => checkE r == 0) (caps := #[]) (tests_atV Try.call56 fun t W R hB hR => Do2_56 t W R hR) _ fun W1 hB1 => ?_)
  have hS := hS.bel hB1
  refine kCall_i (Try.call54 _ _) (must54 _ _ _ _ (fun hok => ?_) (fun hbad => pan _ [] 2 hS (if_pos hbad)))
  have hcl : checkL l = true := hok
  have hck : ∀ r ∈ l, checkE r = 0 := fun r hr => by simpa using List.all_eq_true.1 hok r hr
  refine kLen22 ?_
  refine ⟨⟨fun cs V => ∃ (i : Nat) (x : Value), cs = [x, .bool (!nullL (l.take i)), .int .i64 i] ∧ i ≤ l.length ∧ St w ([.bx b4 49 (vVal z0).cells, .bx b5 28 #[.int .i64 0]] ++ [.row x 27 1 (typesL (l.take i)).length ((typesL (l.take i)).map vInt)]) V,
    fun cs _ => l.length - (match cs with | [_, _, .int _ i] => i.toNat | _ => 0), ⟨0, _, rfl, Nat.zero_le _, hS.adopt (o := .row (.slice none 0 0) 27 1 0 []) (World.ownsRow_nil _ _ _ _) (fun p hp => by simp at hp; rcases hp with rfl | rfl <;> (right; intro q; cases q))⟩, ?_⟩⟩
  rintro cs ds V ⟨i, x, rfl, hile, hV⟩
  dsimp only [List.getD_cons_zero, List.getD_cons_succ]
  refine kBin_lss (kIf_d (fun e => ?_) (fun e => ?_))
  · have hil : i < l.length := by omega
    obtain ⟨pb, po, rfl, hpb, hpr⟩ := (hl.below hV.below).elem (i := i) (v := vVal l[i]) (by simp [hil])
    refine kIa22 hil (kLd49 hpr (kAlloc_st Try.zeroValue49 hV fun b9 V1 hV1 => kStoreAR hV1 rfl (by simp [Value.oneCell']) Try.sizeOf49 fun V2 hV2 => ?_))
    have hV2 : St w [.bx b4 49 (vVal z0).cells, .bx b5 28 #[.int .i64 0], .row x 27 1 (typesL (l.take i)).length ((typesL (l.take i)).map vInt), .bx b9 49 (vVal l[i]).cells] V2 := hV2
    have hV2 : St w ([.bx b4 49 (vVal z0).cells, .bx b5 28 #[.int .i64 0], .bx b9 49 (vVal l[i]).cells] ++ [.row x 27 1 (typesL (l.take i)).length ((typesL (l.take i)).map vInt)]) V2 := hV2.perm (List.Perm.cons _ (List.Perm.cons _ (List.Perm.swap _ _ _)))
    have et : typesL (l.take i) ++ [l[i].1] = typesL (l.take (i + 1)) := by
      unfold typesL; rw [List.take_succ_eq_append_getElem hil, List.map_append]; rfl
    have en : nullL (l.take (i + 1)) = (nullL (l.take i) || (l[i].1 == 0)) := by
      unfold nullL; rw [List.take_succ_eq_append_getElem hil, List.any_append]; simp
    refine kFa49 0 (by omega) (kLd hV2 2 rfl rfl rfl (kAppInt (E24 V2) hV2 (by simp [typesL]; omega) fun x' V3 hV3 => ?_))
    rw [et] at hV3
    have hV4 : St w ([.bx b4 49 (vVal z0).cells, .bx b5 28 #[.int .i64 0]] ++ [.row x' 27 1 (typesL (l.take (i + 1))).length ((typesL (l.take (i + 1))).map vInt)]) V3 := hV3.sub (List.Sublist.cons_cons _ (List.Sublist.cons_cons _ (List.Sublist.cons _ (List.Sublist.refl _))))
    refine kIf_b (fun en0 => kFa49 0 (by omega) (kLd hV3 2 rfl rfl rfl (kNe_int (kBin_add (kD_i ⟨⟨i + 1, x', ?_, hil, hV4⟩, ?_⟩))))) (fun en0 => kBin_add (kD_i ⟨⟨i + 1, x', ?_, hil, hV4⟩, ?_⟩))
    · have en0 : nullL (l.take i) = false := by simpa using en0
      rw [wrap_id (by omega) (by omega), en, en0]; rfl
    · rw [wrap_id (by omega) (by omega)]; show l.length - ((i : Int) + 1).toNat < l.length - (i : Int).toNat; omega
    · have en0 : nullL (l.take i) = true := by simpa using en0
      rw [wrap_id (by omega) (by omega), en, en0]; rfl
    · rw [wrap_id (by omega) (by omega)]; show l.length - ((i : Int) + 1).toNat < l.length - (i : Int).toNat; omega
  · have hil : i = l.length := by omega
    subst hil
    rw [List.take_length] at hV ⊢
    have hown : V.ownsRow w.heap.size 27 1 x (typesL l).length ((typesL l).map vInt) := hV.get 2 rfl
    obtain ⟨a, cp, rfl, hls⟩ := Sl.of_owns (base := w.heap.size) (e := 27) (sz := 1) (n := (typesL l).length) (vs := (typesL l).map vInt) (by simp [vInt, Value.cells]) (by rw [flatI]; exact hown) (by simp)
    have hV0 : St w [.bx b4 49 (vVal z0).cells, .bx b5 28 #[.int .i64 0]] V := hV.init
    refine kCall_i (Try.call58 _ _) (typed58 o (typesL l) V a cp hls (by simp [typesL]; omega) _ ⟨fun em V1 hB1 => ?_, fun em V1 hB1 => pan _ [] _ (hV0.bel hB1) (by unfold doR; rw [if_neg (by simp [hcl]), if_pos em])⟩)
    have hV1 := hV0.bel hB1
    have hdo : doR o l = doM o (l.headD z0) (l.getLastD z0) (nullL l) := by
      unfold doR; rw [if_neg (by simp [hcl]), if_neg (by omega)]
    obtain ⟨ho, hkind⟩ := kinds13 em
    have hpos : 0 < l.length := by rcases hkind with ⟨a, rfl, _⟩ | ⟨a, b, rfl, _⟩ <;> simp
    have hkA : okT o l[0].1 = true ∧ okT o l[l.length - 1].1 = true ∧ (¬ o ≤ 14 → l[l.length - 1] = l[0]) ∧ (nullL l = false → l[0].1 ≠ 0) := by
      rcases hkind with ⟨a, rfl, h14, k1, _⟩ | ⟨a, b, rfl, h14, k1, k2, _⟩
      · exact ⟨k1, k1, fun _ => rfl, fun q => by simp [nullL] at q; exact q⟩
      · exact ⟨k1, k2, fun q => absurd h14 q, fun q => by simp [nullL] at q; exact q.1⟩
    obtain ⟨pb, po, rfl, hat⟩ := At22.of hl hpos
    have hhead : l.headD z0 = l[0] := by cases l with | nil => simp at hpos | cons a t => rfl
    have hlast : l.getLastD z0 = l[l.length - 1] := by
      rw [List.getLastD_eq_getLast?, List.getLast?_eq_getElem?, List.getElem?_eq_getElem (by omega)]; rfl
    rw [hhead, hlast] at hdo
    have hra := hr _ (List.getElem_mem hpos)
    have hrb := hr _ (List.getElem_mem (show l.length - 1 < l.length by omega))
    have hca := hck _ (List.getElem_mem hpos)
    have hcb := hck _ (List.getElem_mem (show l.length - 1 < l.length by omega))
    have hatV := hat V1 hV1.below
    refine kDrawn_i (kDrawn_i (kIa22 (i := 0) hpos (kLd49 (hatV.at_ 0 hpos) (kLen22 (kSub1 hpos (by omega) (kIa22 (by omega) (kLd49 (hatV.at_ (l.length - 1) (by omega)) (kBuild_i (built101ab _ _) (kBuild_i (built103 _ _ _) (kDrew_st hV1 fun W2 hS2 => ?_))))))))))
    refine kAlloc_st Try.zeroValue103 hS2 fun p10 W3 hS3 => qsame (hat W3 hS3.below) hpos (by omega) (kBuild_i (built101ab _ _) (kSame_i (kBuild_i (built103 _ _ _) (kSame_i (kDrew_st hS3 fun W4 hS4 => ?_)))))
    clear hatV hhead hlast hkind hls hown hV hV0
    generalize l[0] = a at hdo hra hca hkA ⊢
    generalize l[l.length - 1] = b at hdo hrb hcb hkA ⊢
    obtain ⟨hkA, hkB, hone, hnn⟩ := hkA
    have hsa := checkE_size hca
    have hsb := checkE_size hcb
    generalize nullL l = nl at hdo hnn ⊢
    refine kStoreAR hS4 rfl (by simp [Value.oneCell', sCells]) Try.sizeOf103 fun W5 hS => ?_
    have hS : St w [.bx b4 49 (vVal z0).cells, .bx b5 28 #[.int .i64 0], .bx p10 103 (sCells a b o)] W5 := hS
    have res : ∀ (r : AV), doM o a b nl = (r, 0) → ∀ W, Below w.heap.size w W → R (.returned (.tuple #[vVal r, .int .i64 0])) W := by
      intro r he W hB
      have := h W hB
      rw [hdo, he] at this; exact this
    refine kJn_inv (fun cs V => St w [.bx b4 49 (vVal z0).cells, .bx b5 28 #[.int .i64 0], .bx p10 103 (sCells a b o)] V ∧ (o ≠ 13 ∧ o ≠ 14 ∧ ¬ (o = 17 ∨ o = 18) ∧ o ≠ 16 ∧ ¬ (7 ≤ o ∧ o ≤ 12)) ∧ nl = false) ?_ ?_
    · rintro cs V2 ⟨hV, ⟨n13, n14, n17, n16, n7⟩, rfl⟩ ds
      have hid : inDoes o := by unfold inDoes; omega
      have hd := doM_pair (a := a) (b := b) n13 n14 n17 n16 n7
      obtain ⟨j, hj⟩ := does_find o hid
      refine kDrawn_i (kDrawn_i (kFa103_0 (kLd101 hV 2 rfl (kDrew_st hV fun W6 hS6 => kCall_i (Try.call63 _ _) (does63 _ _ fun mb W7 hB7 hmb hmap => ?_)))))
      have hS7 := hS6.bel hB7
      refine kFa103_0 (kSame_i (kLd101 hS7 2 rfl (kSame_i (kLook_map (c := cQ Try.prog) hmap Try.underlying107 Try.underlying53 rfl hj (kDrew_st hS7 fun W8 hS8 => ?_)))))
      have h20 : o = 20 → a = iv a.2.1 := fun e => abs_kind (e ▸ hkA) (hnn rfl) hca
      refine kCallV_i ((does_call o a b hid hra hrb hsa hsb h20 W8 (fun _ _ => True) ⟨fun _ _ _ => trivial, fun _ _ _ => trivial⟩).1 _ _) ((does_call o a b hid hra hrb hsa hsb h20 W8 _ ⟨fun he W9 hB9 => ?_, fun he W9 hB9 => ?_⟩).2)
      · refine kDrew_st (hS8.bel hB9) fun W10 hS10 => ?_
        exact do_fin (v := z0) hS10 (res _ (by rw [hd, if_pos he]))
      · exact fun _ => pan _ _ _ (hS8.bel hB9) (by rw [hdo, hd, if_neg he])
    · intro J hJ
      refine kJn_inv (fun cs V => V = W5 ∧ cs = [.bool (decide (o = 17 ∨ o = 18))]) ?_ ?_
      · rintro cs V2 ⟨rfl, rfl⟩ ds
        refine kIf_d (fun e17 => ?_) (fun n17 => ?_)
        · refine kFa103_0 (kFa101 0 (by omega) (kFa49 0 (by omega) (kLd hS 2 rfl rfl rfl (kEq_int (kEq_int (kEq_b4 (kCall_i (Try.call59 _ _) (truth59 _ _ _ fun W hB => do_fin (v := z0) (hS.bel hB) (res _ ?_)))))))))
          unfold doM; rw [if_neg (by omega), if_neg (by omega), if_pos e17]
        · refine kCall_i (Try.call60 _ _) (within60 _ _ _ _ _ (kIf_d (fun e13 => ?_) (fun n13 => ?_)))
          · refine kLoadA_st (c := ⟨Try.prog, _, false⟩) hS 2 rfl Try.underlying103 rfl Try.sizeOf103 rfl (kCall_i (Try.call61 _ _) (logic61 a b o _ _ fun W hB => do_fin (v := z0) (hS.bel hB) (res _ ?_)))
            have hA := known_eq hca (logic_kind (by omega) hkA)
            have hB := known_eq hcb (logic_kind (by omega) hkB)
            rw [hA.1, hB.1]
            have : o = 13 ∨ o = 14 := by omega
            rcases this with rfl | rfl
            · rw [log13 hA.2 hB.2]; rfl
            · rw [log14 hA.2 hB.2]; rfl
          · refine kUn_not (kIf_b (fun en => ?_) (fun en => kEq_int (kIf_eq (fun e16 => ?_) (fun n16 => ?_))))
            · have en : nl = true := by simpa using en
              refine kBuild_i built49_0 (do_fin (v := z0) (r := z0) hS (res _ ?_))
              unfold doM; rw [if_neg (by omega), if_neg (by omega), if_neg n17, if_pos en]
            · have en : nl = false := by simpa using en
              refine kLoadA_st (c := ⟨Try.prog, _, false⟩) hS 2 rfl Try.underlying103 rfl Try.sizeOf103 rfl (kCall_i (Try.call61 _ _) (logic61 a b o _ _ fun W hB => do_fin (v := z0) (hS.bel hB) (res _ ?_)))
              have hA := known_eq hca (logic_kind (by omega) hkA)
              rw [hA.1, e16, log16]
              unfold doM; rw [if_neg (by omega), if_neg (by omega), if_neg (by omega), if_neg (by simp [en]), if_pos rfl]
            · have en : nl = false := by simpa using en
              refine kCall_i (Try.call60 _ _) (within60 _ _ _ _ _ (kIf_d (fun e7 => ?_) (fun n7 => kD_i (hJ _ _ ⟨hS, ⟨by omega, by omega, n17, n16, n7⟩, en⟩))))
              refine kLoadA_st (c := ⟨Try.prog, _, false⟩) hS 2 rfl Try.underlying103 rfl Try.sizeOf103 rfl (kCall_i (Try.call62 _ _) (ordered62 a b o e7.1 e7.2 _ _ fun W hB => do_fin (v := z0) (hS.bel hB) (res _ ?_)))
              unfold doM; rw [if_neg (by omega), if_neg (by omega), if_neg n17, if_neg (by simp [en]), if_neg n16, if_neg (by omega), if_neg (by omega), if_pos e7]
      · intro J hJ
        refine kEq_int (kIf_eq (fun e => kD_i (hJ _ _ ⟨rfl, ?_⟩)) (fun e => kEq_int (kD_i (hJ _ _ ⟨rfl, ?_⟩))))
        · rw [decide_eq_true (Or.inl e)]
        · congr 2; rw [Bool.eq_iff_iff]; simp [e]
end Go.L
namespace Go.L
open Go Go.RowKit Go.Proofs
set_option linter.unusedSimpArgs false
set_option linter.unusedVariables false

theorem of27 (n : Int) (w : World) (R : Ending → World → Prop) (h : RetV w (iv n) R) : Calls Try.prog 27 #[.int .i64 n] w R := by
  refine c27 _ _ _ ?_
  unfold vc27
  exact kAlloc_st Try.zeroValue49 (St.start w) fun b W hS => kBuild_i (built49n 2 n) (kStoreA_st hS 0 rfl rfl (by simp [Value.oneCell']) Try.sizeOf49 fun W hS => h.fin hS 0 rfl rfl)
theorem num25 (n : Int) (w : World) (R : Ending → World → Prop) (h : R (.returned (.int .i64 n)) w) : Calls Try.prog 25 #[.int .i64 n] w R := by
  refine c25 _ _ _ ?_
  unfold vc25
  exact h
/-- Two values in a slice of their own. -/
theorem kBS22 {X : Chain → World → Prop} {w w0 : World} {L : List Own} {a b : AV} {k : Value → World → Prop} (hS : St w0 L w) (h : ∀ x cp W, St w0 L W → (∀ W', Below W.heap.size W W' → Sl W' x 3 ([a, b].map vVal)) → k (.slice x 2 cp) W) :
    kBuildS ⟨Try.prog, X, false⟩ w 22 2 #[(0, vVal a), (1, vVal b)] k :=
  kBS (E22 w) hS [vVal a, vVal b] rfl rfl (by omega) (by omega) (by intro v hv; simp at hv; rcases hv with rfl | rfl <;> rfl) fun x cp W hS hl => h x cp W hS.init fun W' hB => hl.below hB
theorem kDo2 {X : Chain → World → Prop} {w : World} {x : Option Addr} {cp : Nat} {o : Int} {a b r : AV} {e : Int} {k : Value → World → Prop} (hl : Sl w x 3 ([a, b].map vVal)) (ha : Rng a) (hb : Rng b) (hd : doR o [a, b] = (r, e)) (h : ∀ W, Below w.heap.size w W → k (.tuple #[vVal r, .int .i64 e]) W) :
    kCall ⟨Try.prog, X, false⟩ w 23 #[.int .i64 o, .slice x 2 cp] k :=
  kCall_i (Try.call23 _ _) (Do23 o [a, b] w x cp hl (by simp) (by intro r hr; simp at hr; rcases hr with rfl | rfl <;> assumption) _ fun W hB => by
    have := h W hB
    rw [hd]; exact this)
/-- Built and done. -/
theorem kBD {X : Chain → World → Prop} {w w0 : World} {L : List Own} {o : Int} {a b r : AV} {e : Int} {k : Value → World → Prop} (hS : St w0 L w) (ha : Rng a) (hb : Rng b) (hd : doR o [a, b] = (r, e)) (h : ∀ W, St w0 L W → k (.tuple #[vVal r, .int .i64 e]) W) :
    kBuildS ⟨Try.prog, X, false⟩ w 22 2 #[(0, vVal a), (1, vVal b)] fun v W => kCall ⟨Try.prog, X, false⟩ W 23 #[.int .i64 o, v] k :=
  kBS22 hS fun x cp W hS hl => kDo2 (hl W (Below.refl _ _)) ha hb hd fun W hB => h W (hS.bel hB)
theorem d1 : doR 1 [iv 2, iv 3] = (iv 5, 0) := by decide +kernel
theorem d2 : doR 4 [iv (-7), iv 2] = (iv (-3), 0) := by decide +kernel
theorem d3 : doR 5 [iv (-7), iv 2] = (iv (-1), 0) := by decide +kernel
theorem d4 : doR 4 [iv 1, iv 0] = (z0, 121) := by decide +kernel
theorem d5 : doR 1 [iv 9223372036854775807, iv 1] = (z0, 122) := by decide +kernel
theorem d6 : doR 7 [z0, iv 1] = (z0, 0) := by decide +kernel
theorem d7 : doR 14 [z0, ofT 1] = (ofT 1, 0) := by decide +kernel
theorem d8 : doR 9 [iv 1, (3, 0, ⟨#[97]⟩)] = (z0, 120) := by decide +kernel
theorem d9 : makV 6 [3, 0] = 3 ∧ mkE 6 [3, 0] = 0 := by decide +kernel
end Go.L
namespace Go.L
open Go Go.RowKit Go.Proofs
set_option linter.unusedSimpArgs false
set_option linter.unusedVariables false

theorem works22 (w : World) (R : Ending → World → Prop) (h : ∀ W, Below w.heap.size w W → R (.returned (.bool true)) W) : Calls Try.prog 22 #[] w R := by
  refine c22 _ _ ?_
  unfold vc22
  refine kAlloc_st Try.zeroValue49 (St.start w) fun b1 W hS => ?_
  have hS : St w [.bx b1 49 (vVal (z0)).cells] W := hS
  refine kCall_i (Try.call27 _ _) (of27 (2) _ _ fun W hB => kCall_i (Try.call27 _ _) (of27 (3) _ _ fun W hB' => kBD ((hS.bel hB).bel hB') ⟨by decide, by decide⟩ ⟨by decide, by decide⟩ d1 fun W hS => kExt_0 (kExt_1 (kAlloc_st Try.zeroValue49 hS fun b2 W hS => kStoreAR hS rfl (by simp [Value.oneCell']) Try.sizeOf49 fun W hS => ?_))))
  have hS : St w [.bx b1 49 (vVal (z0)).cells, .bx b2 49 (vVal (iv 5)).cells] W := hS
  refine kCall_i (Try.call27 _ _) (of27 (-7) _ _ fun W hB => kCall_i (Try.call27 _ _) (of27 (2) _ _ fun W hB' => kBD ((hS.bel hB).bel hB') ⟨by decide, by decide⟩ ⟨by decide, by decide⟩ d2 fun W hS => kExt_0 (kExt_1 (kAlloc_st Try.zeroValue49 hS fun b4 W hS => kStoreAR hS rfl (by simp [Value.oneCell']) Try.sizeOf49 fun W hS => ?_))))
  have hS : St w [.bx b1 49 (vVal (z0)).cells, .bx b2 49 (vVal (iv 5)).cells, .bx b4 49 (vVal (iv (-3))).cells] W := hS
  refine kCall_i (Try.call27 _ _) (of27 (-7) _ _ fun W hB => kCall_i (Try.call27 _ _) (of27 (2) _ _ fun W hB' => kBD ((hS.bel hB).bel hB') ⟨by decide, by decide⟩ ⟨by decide, by decide⟩ d3 fun W hS => kExt_0 (kExt_1 (kAlloc_st Try.zeroValue49 hS fun b6 W hS => kStoreAR hS rfl (by simp [Value.oneCell']) Try.sizeOf49 fun W hS => ?_))))
  have hS : St w [.bx b1 49 (vVal (z0)).cells, .bx b2 49 (vVal (iv 5)).cells, .bx b4 49 (vVal (iv (-3))).cells, .bx b6 49 (vVal (iv (-1))).cells] W := hS
  refine kCall_i (Try.call27 _ _) (of27 (1) _ _ fun W hB => kCall_i (Try.call27 _ _) (of27 (0) _ _ fun W hB' => kBD ((hS.bel hB).bel hB') ⟨by decide, by decide⟩ ⟨by decide, by decide⟩ d4 fun W hS => kExt_0 (kExt_1 (kAlloc_st Try.zeroValue49 hS fun b8 W hS => kStoreAR hS rfl (by simp [Value.oneCell']) Try.sizeOf49 fun W hS => ?_))))
  have hS : St w [.bx b1 49 (vVal (z0)).cells, .bx b2 49 (vVal (iv 5)).cells, .bx b4 49 (vVal (iv (-3))).cells, .bx b6 49 (vVal (iv (-1))).cells, .bx b8 49 (vVal (z0)).cells] W := hS
  refine kCall_i (Try.call27 _ _) (of27 (9223372036854775807) _ _ fun W hB => kCall_i (Try.call27 _ _) (of27 (1) _ _ fun W hB' => kBD ((hS.bel hB).bel hB') ⟨by decide, by decide⟩ ⟨by decide, by decide⟩ d5 fun W hS => kExt_0 (kExt_1 (kAlloc_st Try.zeroValue49 hS fun b10 W hS => kStoreAR hS rfl (by simp [Value.oneCell']) Try.sizeOf49 fun W hS => ?_))))
  have hS : St w [.bx b1 49 (vVal (z0)).cells, .bx b2 49 (vVal (iv 5)).cells, .bx b4 49 (vVal (iv (-3))).cells, .bx b6 49 (vVal (iv (-1))).cells, .bx b8 49 (vVal (z0)).cells, .bx b10 49 (vVal (z0)).cells] W := hS
  refine kDrawn_i (kDrawn_i (kJn_inv (fun cs V => ∃ b, cs.getD 6 undef = .int .i64 0 ∧ cs.getD 7 undef = .pointer (some ⟨b, 0, none⟩) ∧ St w ([.bx b1 49 (vVal (z0)).cells, .bx b2 49 (vVal (iv 5)).cells, .bx b4 49 (vVal (iv (-3))).cells, .bx b6 49 (vVal (iv (-1))).cells, .bx b8 49 (vVal (z0)).cells, .bx b10 49 (vVal (z0)).cells] ++ [.bx b 49 (vVal z0).cells]) V) ?_ ?_))
  rotate_left
  · intro J hJ
    have fin : ∀ (b : Nat) (M : List Own) (V : World) (cs : List Value), St w ([.bx b1 49 (vVal (z0)).cells, .bx b2 49 (vVal (iv 5)).cells, .bx b4 49 (vVal (iv (-3))).cells, .bx b6 49 (vVal (iv (-1))).cells, .bx b8 49 (vVal (z0)).cells, .bx b10 49 (vVal (z0)).cells] ++ M ++ [.bx b 49 (vVal z0).cells]) V → cs.getD 6 undef = .int .i64 0 → cs.getD 7 undef = .pointer (some ⟨b, 0, none⟩) → J cs V := fun b M V cs hV h6 h7 => hJ _ _ ⟨b, h6, h7, hV.sub (List.Sublist.append (List.sublist_append_left _ _) (List.Sublist.refl _))⟩
    refine kLoadA_st (c := cQ Try.prog) hS 0 rfl Try.underlying49 rfl Try.sizeOf49 rfl (kBoth_i (kDrew_st hS fun W hS => kCall_i (Try.call27 _ _) (of27 1 _ _ fun W hB => ?_)) (kDrew_st hS fun W hS => kAlloc_st Try.zeroValue49 hS fun b W hS => ?_))
    · have hS := hS.bel hB
      refine kLoadA_st (c := cQ Try.prog) hS 0 rfl Try.underlying49 rfl Try.sizeOf49 rfl (kSame_i (kBoth_i (kDrew_st hS fun W hS => ?_) (kDrew_st hS fun W hS => kAlloc_st Try.zeroValue49 hS fun b W hS => ?_)))
      · refine kBS (E22 W) hS [vVal z0, vVal (iv 1)] rfl rfl (by omega) (by omega) (by intro v hv; simp at hv; rcases hv with rfl | rfl <;> rfl) fun x cp W hS hl => kBoth_i (kDrew_st hS fun W hS => ?_) (kDrew_st hS fun W hS => kAlloc_st Try.zeroValue49 hS fun b W hS => kDrew_st hS fun W hS => ?_)
        · refine kDo2 (hS.sl _ at_r (by intro v hv; simp at hv; rcases hv with rfl | rfl <;> rfl) rfl) ⟨by decide, by decide⟩ ⟨by decide, by decide⟩ d6 fun W hB => kExt_0 (kExt_1 (kDrew_st (hS.bel hB) fun W hS => kAlloc_st Try.zeroValue49 hS fun b W hS => kDrew_st hS fun W hS => kStoreAR hS rfl (by simp [Value.oneCell', ofT]) Try.sizeOf49 fun W hS => kDrew_st hS fun W hS => fin b _ _ _ hS rfl rfl))
        · refine kDo2 (hS.sl _ (at_l at_r) (by intro v hv; simp at hv; rcases hv with rfl | rfl <;> rfl) rfl) ⟨by decide, by decide⟩ ⟨by decide, by decide⟩ d6 fun W hB => kExt_0 (kExt_1 (kDrew_st (hS.bel hB) fun W hS => kStoreAR hS rfl (by simp [Value.oneCell', ofT]) Try.sizeOf49 fun W hS => kDrew_st hS fun W hS => fin b _ _ _ hS rfl rfl))
      · refine kLoadA_st (c := cQ Try.prog) hS 0 rfl Try.underlying49 rfl Try.sizeOf49 rfl (kSame_i (kDrew_st hS fun W hS => kBS22 hS fun x cp W hS hl => ⟨fun m => ?_⟩))
        refine kDo2 (hl _ ⟨rfl, rfl, rfl, Nat.le_refl _, fun _ _ => rfl⟩) ⟨by decide, by decide⟩ ⟨by decide, by decide⟩ d6 fun W hB => kExt_0 (kExt_1 (kDrew_st ((hS.drewN m).bel hB) fun W hS => kStoreAR hS rfl (by simp [Value.oneCell', ofT]) Try.sizeOf49 fun W hS => kDrew_st hS fun W hS => fin b [] _ _ hS rfl rfl))
    · refine kLoadA_st (c := cQ Try.prog) hS 0 rfl Try.underlying49 rfl Try.sizeOf49 rfl (kSame_i (kDrew_st hS fun W hS => kCall_i (Try.call27 _ _) (of27 1 _ _ fun W hB => ?_)))
      have hS := hS.bel hB
      refine kLoadA_st (c := cQ Try.prog) hS 0 rfl Try.underlying49 rfl Try.sizeOf49 rfl (kSame_i (kDrew_st hS fun W hS => kBS22 hS fun x cp W hS hl => ⟨fun m => ?_⟩))
      refine kDo2 (hl _ ⟨rfl, rfl, rfl, Nat.le_refl _, fun _ _ => rfl⟩) ⟨by decide, by decide⟩ ⟨by decide, by decide⟩ d6 fun W hB => kExt_0 (kExt_1 (kDrew_st ((hS.drewN m).bel hB) fun W hS => kStoreAR hS rfl (by simp [Value.oneCell', ofT]) Try.sizeOf49 fun W hS => kDrew_st hS fun W hS => fin b [] _ _ hS rfl rfl))
  rintro cs V ⟨b12, e6, e7, hS⟩
  rw [e6, e7]
  try dsimp only
  have hS : St w [.bx b1 49 (vVal (z0)).cells, .bx b2 49 (vVal (iv 5)).cells, .bx b4 49 (vVal (iv (-3))).cells, .bx b6 49 (vVal (iv (-1))).cells, .bx b8 49 (vVal (z0)).cells, .bx b10 49 (vVal (z0)).cells, .bx b12 49 (vVal (z0)).cells] V := hS
  refine kDrawn_i (kDrawn_i (kJn_inv (fun cs V => ∃ b, cs.getD 6 undef = .int .i64 0 ∧ cs.getD 7 undef = .pointer (some ⟨b, 0, none⟩) ∧ St w ([.bx b1 49 (vVal (z0)).cells, .bx b2 49 (vVal (iv 5)).cells, .bx b4 49 (vVal (iv (-3))).cells, .bx b6 49 (vVal (iv (-1))).cells, .bx b8 49 (vVal (z0)).cells, .bx b10 49 (vVal (z0)).cells, .bx b12 49 (vVal (z0)).cells] ++ [.bx b 49 (vVal (ofT 1)).cells]) V) ?_ ?_))
  rotate_left
  · intro J hJ
    have fin : ∀ (b : Nat) (M : List Own) (V : World) (cs : List Value), St w ([.bx b1 49 (vVal (z0)).cells, .bx b2 49 (vVal (iv 5)).cells, .bx b4 49 (vVal (iv (-3))).cells, .bx b6 49 (vVal (iv (-1))).cells, .bx b8 49 (vVal (z0)).cells, .bx b10 49 (vVal (z0)).cells, .bx b12 49 (vVal (z0)).cells] ++ M ++ [.bx b 49 (vVal (ofT 1)).cells]) V → cs.getD 6 undef = .int .i64 0 → cs.getD 7 undef = .pointer (some ⟨b, 0, none⟩) → J cs V := fun b M V cs hV h6 h7 => hJ _ _ ⟨b, h6, h7, hV.sub (List.Sublist.append (List.sublist_append_left _ _) (List.Sublist.refl _))⟩
    refine kLoadA_st (c := cQ Try.prog) hS 0 rfl Try.underlying49 rfl Try.sizeOf49 rfl (kBoth_i (kDrew_st hS fun W hS => kCall_i (Try.call51 _ _) (Of51 1 _ _ fun W hB => ?_)) (kDrew_st hS fun W hS => kAlloc_st Try.zeroValue49 hS fun b W hS => ?_))
    · have hS := hS.bel hB
      refine kLoadA_st (c := cQ Try.prog) hS 0 rfl Try.underlying49 rfl Try.sizeOf49 rfl (kSame_i (kBoth_i (kDrew_st hS fun W hS => ?_) (kDrew_st hS fun W hS => kAlloc_st Try.zeroValue49 hS fun b W hS => ?_)))
      · refine kBS (E22 W) hS [vVal z0, vVal (ofT 1)] rfl rfl (by omega) (by omega) (by intro v hv; simp at hv; rcases hv with rfl | rfl <;> rfl) fun x cp W hS hl => kBoth_i (kDrew_st hS fun W hS => ?_) (kDrew_st hS fun W hS => kAlloc_st Try.zeroValue49 hS fun b W hS => kDrew_st hS fun W hS => ?_)
        · refine kDo2 (hS.sl _ at_r (by intro v hv; simp at hv; rcases hv with rfl | rfl <;> rfl) rfl) ⟨by decide, by decide⟩ ⟨by decide, by decide⟩ d7 fun W hB => kExt_0 (kExt_1 (kDrew_st (hS.bel hB) fun W hS => kAlloc_st Try.zeroValue49 hS fun b W hS => kDrew_st hS fun W hS => kStoreAR hS rfl (by simp [Value.oneCell', ofT]) Try.sizeOf49 fun W hS => kDrew_st hS fun W hS => fin b _ _ _ hS rfl rfl))
        · refine kDo2 (hS.sl _ (at_l at_r) (by intro v hv; simp at hv; rcases hv with rfl | rfl <;> rfl) rfl) ⟨by decide, by decide⟩ ⟨by decide, by decide⟩ d7 fun W hB => kExt_0 (kExt_1 (kDrew_st (hS.bel hB) fun W hS => kStoreAR hS rfl (by simp [Value.oneCell', ofT]) Try.sizeOf49 fun W hS => kDrew_st hS fun W hS => fin b _ _ _ hS rfl rfl))
      · refine kLoadA_st (c := cQ Try.prog) hS 0 rfl Try.underlying49 rfl Try.sizeOf49 rfl (kSame_i (kDrew_st hS fun W hS => kBS22 hS fun x cp W hS hl => ⟨fun m => ?_⟩))
        refine kDo2 (hl _ ⟨rfl, rfl, rfl, Nat.le_refl _, fun _ _ => rfl⟩) ⟨by decide, by decide⟩ ⟨by decide, by decide⟩ d7 fun W hB => kExt_0 (kExt_1 (kDrew_st ((hS.drewN m).bel hB) fun W hS => kStoreAR hS rfl (by simp [Value.oneCell', ofT]) Try.sizeOf49 fun W hS => kDrew_st hS fun W hS => fin b [] _ _ hS rfl rfl))
    · refine kLoadA_st (c := cQ Try.prog) hS 0 rfl Try.underlying49 rfl Try.sizeOf49 rfl (kSame_i (kDrew_st hS fun W hS => kCall_i (Try.call51 _ _) (Of51 1 _ _ fun W hB => ?_)))
      have hS := hS.bel hB
      refine kLoadA_st (c := cQ Try.prog) hS 0 rfl Try.underlying49 rfl Try.sizeOf49 rfl (kSame_i (kDrew_st hS fun W hS => kBS22 hS fun x cp W hS hl => ⟨fun m => ?_⟩))
      refine kDo2 (hl _ ⟨rfl, rfl, rfl, Nat.le_refl _, fun _ _ => rfl⟩) ⟨by decide, by decide⟩ ⟨by decide, by decide⟩ d7 fun W hB => kExt_0 (kExt_1 (kDrew_st ((hS.drewN m).bel hB) fun W hS => kStoreAR hS rfl (by simp [Value.oneCell', ofT]) Try.sizeOf49 fun W hS => kDrew_st hS fun W hS => fin b [] _ _ hS rfl rfl))
  rintro cs V ⟨b14, e6, e7, hS⟩
  rw [e6, e7]
  try dsimp only
  have hS : St w [.bx b1 49 (vVal (z0)).cells, .bx b2 49 (vVal (iv 5)).cells, .bx b4 49 (vVal (iv (-3))).cells, .bx b6 49 (vVal (iv (-1))).cells, .bx b8 49 (vVal (z0)).cells, .bx b10 49 (vVal (z0)).cells, .bx b12 49 (vVal (z0)).cells, .bx b14 49 (vVal (ofT 1)).cells] V := hS
  refine kCall_i (Try.call27 _ _) (of27 1 _ _ fun W hB => kBuild_i (built49_02 3 ⟨#[97]⟩) (kBD (b := (3, 0, ⟨#[97]⟩)) (hS.bel hB) ⟨by decide, by decide⟩ ⟨by decide, by decide⟩ d8 fun W hS => kExt_0 (kExt_1 (kAlloc_st Try.zeroValue49 hS fun b16 W hS => kStoreAR hS rfl (by simp [Value.oneCell']) Try.sizeOf49 fun W hS => ?_))))
  have hS : St w [.bx b1 49 (vVal (z0)).cells, .bx b2 49 (vVal (iv 5)).cells, .bx b4 49 (vVal (iv (-3))).cells, .bx b6 49 (vVal (iv (-1))).cells, .bx b8 49 (vVal (z0)).cells, .bx b10 49 (vVal (z0)).cells, .bx b12 49 (vVal (z0)).cells, .bx b14 49 (vVal (ofT 1)).cells, .bx b16 49 (vVal (z0)).cells] W := hS
  refine kBS (E24 W) hS [vInt 3, vInt 0] rfl rfl (by omega) (by omega) (by simp [vInt, Value.cells]) fun x cp W hS hl => ?_
  refine kCall_i (Try.call26 _ _) (Makes26 6 [3, 0] W x cp hl (by simp) _ fun W hB => ?_)
  have hS : St w [.bx b1 49 (vVal (z0)).cells, .bx b2 49 (vVal (iv 5)).cells, .bx b4 49 (vVal (iv (-3))).cells, .bx b6 49 (vVal (iv (-1))).cells, .bx b8 49 (vVal (z0)).cells, .bx b10 49 (vVal (z0)).cells, .bx b12 49 (vVal (z0)).cells, .bx b14 49 (vVal (ofT 1)).cells, .bx b16 49 (vVal (z0)).cells] W := (hS.init).bel hB
  rw [d9.1, d9.2]
  refine kExt_0 (kExt_1 (kDrawn_i (kDrawn_i ?_)))
  refine kDrew_st hS fun W hS => ?_
  refine kCall_i (Try.call25 _ _) (num25 _ _ _ ?_)
  refine kDrew_st hS fun W hS => ?_
  refine kCall_i (Try.call25 _ _) (num25 _ _ _ ?_)
  refine kBin_add ?_
  refine kDrew_st hS fun W hS => ?_
  refine kCall_i (Try.call25 _ _) (num25 _ _ _ ?_)
  refine kBin_add ?_
  refine kSame_i ?_
  refine kBin_add ?_
  refine kDrew_st hS fun W hS => ?_
  refine kCall_i (Try.call25 _ _) (num25 _ _ _ ?_)
  refine kBin_add ?_
  refine kSame_i ?_
  refine kBin_add ?_
  refine kSame_i ?_
  refine kBin_add ?_
  refine kDrew_st hS fun W hS => ?_
  refine kCall_i (Try.call25 _ _) (num25 _ _ _ ?_)
  refine kBin_add ?_
  refine kSame_i ?_
  refine kBin_add ?_
  refine kSame_i ?_
  refine kBin_add ?_
  refine kSame_i ?_
  refine kBin_add ?_
  refine kDrew_st hS fun W hS => ?_
  refine kCall_i (Try.call25 _ _) (num25 _ _ _ ?_)
  refine kBin_add ?_
  refine kSame_i ?_
  refine kBin_add ?_
  refine kSame_i ?_
  refine kBin_add ?_
  refine kSame_i ?_
  refine kBin_add ?_
  refine kSame_i ?_
  refine kBin_add ?_
  refine kEq_int ?_
  refine kIf_t (kLoadA_st (c := cQ Try.prog) hS 1 rfl Try.underlying49 rfl Try.sizeOf49 rfl (kDrew_st hS fun W hS => kCall_i (Try.call27 _ _) (of27 5 _ _ fun W hB => ?_)))
  have hS := hS.bel hB
  refine kLoadA_st (c := cQ Try.prog) hS 1 rfl Try.underlying49 rfl Try.sizeOf49 rfl (kSame_i (kEq_49 (a := iv 5) (b := iv 5) (kIf_d (fun _ => ?_) (fun e => absurd rfl e))))
  refine kLoadA_st (c := cQ Try.prog) hS 2 rfl Try.underlying49 rfl Try.sizeOf49 rfl (kDrew_st hS fun W hS => kCall_i (Try.call27 _ _) (of27 (-3) _ _ fun W hB => ?_))
  have hS := hS.bel hB
  refine kLoadA_st (c := cQ Try.prog) hS 2 rfl Try.underlying49 rfl Try.sizeOf49 rfl (kSame_i (kEq_49 (a := iv (-3)) (b := iv (-3)) (kIf_d (fun _ => ?_) (fun e => absurd rfl e))))
  refine kLoadA_st (c := cQ Try.prog) hS 3 rfl Try.underlying49 rfl Try.sizeOf49 rfl (kDrew_st hS fun W hS => kCall_i (Try.call27 _ _) (of27 (-1) _ _ fun W hB => ?_))
  have hS := hS.bel hB
  refine kLoadA_st (c := cQ Try.prog) hS 3 rfl Try.underlying49 rfl Try.sizeOf49 rfl (kSame_i (kEq_49 (a := iv (-1)) (b := iv (-1)) (kIf_d (fun _ => ?_) (fun e => absurd rfl e))))
  refine kDrew_st hS fun W hS => kCall_i (Try.call25 _ _) (num25 _ _ _ (kEq_int (kIf_t (kDrew_st hS fun W hS => kCall_i (Try.call25 _ _) (num25 _ _ _ (kEq_int (kIf_t ?_)))))))
  refine kLoadA_st (c := cQ Try.prog) hS 6 rfl Try.underlying49 rfl Try.sizeOf49 rfl (kLoadA_st (c := cQ Try.prog) hS 0 rfl Try.underlying49 rfl Try.sizeOf49 rfl (kEq_49 (a := z0) (b := z0) (kIf_d (fun _ => ?_) (fun e => absurd rfl e))))
  refine kLoadA_st (c := cQ Try.prog) hS 7 rfl Try.underlying49 rfl Try.sizeOf49 rfl (kDrew_st hS fun W hS => kCall_i (Try.call51 _ _) (Of51 1 _ _ fun W hB => ?_))
  have hS := hS.bel hB
  refine kLoadA_st (c := cQ Try.prog) hS 7 rfl Try.underlying49 rfl Try.sizeOf49 rfl (kSame_i (kEq_49 (a := ofT 1) (b := ofT 1) (kIf_d (fun _ => ?_) (fun e => absurd rfl e))))
  exact kDrew_st hS fun W hS => kCall_i (Try.call25 _ _) (num25 _ _ _ (kEq_int (kIf_t (kEq_int (kDrew_st hS fun W hS => h W hS.below)))))
end Go.L
namespace Go.L
open Go Go.RowKit Go.Proofs
set_option linter.unusedSimpArgs false
set_option linter.unusedVariables false

theorem SumDoes6 (o : Int) (l : List AV) (w : World) (lo : Option Addr) (lc : Nat) (hl : Sl w lo 3 (l.map vVal)) (hr : ∀ r ∈ l, Rng r) (R : Ending → World → Prop)
    (h : ∀ W, Below w.heap.size w W → R (.returned (.bool true)) W) : Calls Try.prog 6 #[.int .i64 o, .slice lo l.length lc] w R := by
  refine c6 _ _ _ _ _ _ ?_
  unfold vc6
  refine kLen22 (kBin_gtr (kIf_d (fun e4 => kCall_i (Try.call22 _ _) (works22 _ _ h)) (fun e4 => ?_)))
  refine ⟨⟨fun cs V => ∃ i : Nat, cs = [.int .i64 i] ∧ i ≤ l.length ∧ V = w, fun cs _ => l.length - (match cs with | [.int _ i] => i.toNat | _ => 0), ⟨0, rfl, Nat.zero_le _, rfl⟩, ?_⟩⟩
  rintro cs ds V ⟨i, rfl, hile, rfl⟩
  dsimp only [List.getD_cons_zero]
  refine kLen22 (kBin_lss (kIf_d (fun e => ?_) (fun e => ?_)))
  · have hil : i < l.length := by omega
    obtain ⟨pb, po, rfl, hpb, hpr⟩ := hl.elem (i := i) (v := vVal l[i]) (by simp [hil])
    refine kIa22 hil (kFa49 2 (by omega) (kLdS rfl (hpr 2 _ rfl) (kLen9 (kBin_gtr (kIf_d (fun e1 => kCall_i (Try.call22 _ _) (works22 _ _ h)) (fun e1 => kBin_add (kD_i ⟨⟨i + 1, by rw [wrap_id (by omega) (by omega)]; rfl, hil, rfl⟩, ?_⟩)))))))
    rw [wrap_id (by omega) (by omega)]; show l.length - ((i : Int) + 1).toNat < l.length - (i : Int).toNat; omega
  · refine kCall_i (Try.call23 _ _) (Do23 o l V lo lc hl (by omega) hr _ fun W1 hB1 => kExt_0 (kExt_1 (kAlloc_st Try.zeroValue49 ((St.start V).bel hB1) fun b6 W2 hS2 => ?_)))
    have hS2 : St V ([] ++ [.bx b6 49 (vVal z0).cells]) W2 := hS2
    refine kStoreAR hS2 rfl (by simp [Value.oneCell']) Try.sizeOf49 fun W3 hS3 => ?_
    refine kCall_i (Try.call24 _ _) (refDo24 o l W3 lo lc (hl.below hS3.below) (by omega) hr _ fun W4 hB4 => kExt_0 (kExt_1 (kAlloc_st Try.zeroValue49 (hS3.bel hB4) fun b8 W5 hS5 => kStoreAR hS5 rfl (by simp [Value.oneCell']) Try.sizeOf49 fun W6 hS6 => ?_)))
    have hS6 : St V [.bx b6 49 (vVal (doR o l).1).cells, .bx b8 49 (vVal (doR o l).1).cells] W6 := hS6
    refine kLoadA_st (c := ⟨Try.prog, _, false⟩) hS6 0 rfl Try.underlying49 rfl Try.sizeOf49 rfl (kLoadA_st (c := ⟨Try.prog, _, false⟩) hS6 1 rfl Try.underlying49 rfl Try.sizeOf49 rfl (kEq_49 (a := (doR o l).1) (b := (doR o l).1) (kIf_d (fun _ => ?_) (fun e => absurd rfl e))))
    exact kCall_i (Try.call25 _ _) (num25 _ _ _ (kEq_int (kIf_eq (fun _ => kCall_i (Try.call22 _ _) (works22 _ _ fun W hB => h W (hS6.bel hB).below)) (fun e => absurd rfl e))))
end Go.L
namespace Go.L
open Go Go.RowKit Go.Proofs
set_option linter.unusedSimpArgs false
set_option linter.unusedVariables false

theorem ofT_kind (t : Int) : ofT t = z0 ∨ (ofT t).1 = 1 := by
  unfold ofT; split
  · right; rfl
  · left; rfl
theorem wholeE_err (o a b : Int) : wholeE o a b = 0 ∨ wholeE o a b = 121 ∨ wholeE o a b = 122 := by
  unfold wholeE fitE; split
  · omega
  · split <;> omega
theorem doM_kind {o : Int} {a b : AV} {nl : Bool} (ho : 1 ≤ o ∧ o ≤ 20) (h : (doM o a b nl).2 = 0) : (doM o a b nl).1 = z0 ∨ (doM o a b nl).1.1 = if o = 6 then a.1 else (infoO o).2.2.2 := by
  have hc : o = 1 ∨ o = 2 ∨ o = 3 ∨ o = 4 ∨ o = 5 ∨ o = 6 ∨ o = 7 ∨ o = 8 ∨ o = 9 ∨ o = 10 ∨ o = 11 ∨ o = 12 ∨ o = 13 ∨ o = 14 ∨ o = 15 ∨ o = 16 ∨ o = 17 ∨ o = 18 ∨ o = 19 ∨ o = 20 := by omega
  have hw : ∀ (p : Prop) [Decidable p] (x e : Int), (p → e = 0 → False) → ((if p then ((z0, e) : AV × Int) else (iv x, 0)).1 = z0 ∨ (if p then ((z0, e) : AV × Int) else (iv x, 0)).1.1 = 2) := by
    intro p _ x e _
    by_cases q : p
    · left; rw [if_pos q]
    · right; rw [if_neg q]; rfl
  have hcat : ∀ (p : Prop) [Decidable p] (v : AV), (if p then ((v, 0) : AV × Int) else (z0, 3)).1 = z0 ∨ (if p then ((v, 0) : AV × Int) else (z0, 3)).1.1 = v.1 := by
    intro p _ v
    by_cases q : p
    · right; rw [if_pos q]
    · left; rw [if_neg q]
  cases nl
  · rcases hc with rfl | rfl | rfl | rfl | rfl | rfl | rfl | rfl | rfl | rfl | rfl | rfl | rfl | rfl | rfl | rfl | rfl | rfl | rfl | rfl
    iterate 5 exact hw _ _ _ (fun h e => h e)
    · exact hcat _ _
    iterate 6 exact .inr rfl
    · exact ofT_kind _
    · exact ofT_kind _
    · exact hw _ _ _ (fun h e => h e)
    · exact ofT_kind _
    · exact .inr rfl
    · exact .inr rfl
    · exact .inr rfl
    · exact hw _ _ _ (fun h e => h e)
  · rcases hc with rfl | rfl | rfl | rfl | rfl | rfl | rfl | rfl | rfl | rfl | rfl | rfl | rfl | rfl | rfl | rfl | rfl | rfl | rfl | rfl
    iterate 12 exact .inl rfl
    · exact ofT_kind _
    · exact ofT_kind _
    · exact .inl rfl
    · exact .inl rfl
    · exact .inr rfl
    · exact .inr rfl
    · exact .inl rfl
    · exact .inl rfl
theorem doM_err (o : Int) (a b : AV) (nl : Bool) : (doM o a b nl).2 ≠ 120 := by
  have := wholeE_err o a.2.1 b.2.1
  unfold doM
  repeat' split
  all_goals simp
  omega
theorem doR_ok {o : Int} {l : List AV} (h : (doR o l).2 = 0) : mkE o (typesL l) = 0 ∧ ((doR o l).1 = z0 ∨ (doR o l).1.1 = makV o (typesL l)) := by
  unfold doR at h ⊢
  by_cases h1 : checkL l = false
  · rw [if_pos h1] at h; exact absurd h (by decide)
  · rw [if_neg h1] at h ⊢
    by_cases h2 : mkE o (typesL l) ≠ 0
    · rw [if_pos h2] at h; exact absurd h h2
    · rw [if_neg h2] at h ⊢
      have h2 : mkE o (typesL l) = 0 := by omega
      refine ⟨h2, ?_⟩
      obtain ⟨ho, hk⟩ := kinds13 h2
      rw [show makV o (typesL l) = mkV o (typesL l) from if_pos h2]
      by_cases h6 : o = 6
      · by_cases hn : nullL l = true
        · left; subst h6; unfold doM; simp [hn]
        · rcases hk with ⟨a, rfl, h14, _⟩ | ⟨a, b, rfl, h14, k1, k2, r⟩
          · omega
          · have hn : ¬ (a.1 = 0 ∨ b.1 = 0) := by simpa [nullL] using hn
            have hcl : ¬ clash o a.1 b.1 := by
              intro q
              have : mkE o (typesL [a, b]) = 120 := by
                have : mkE o (typesL [a, b]) = 0 ∨ mkE o (typesL [a, b]) = 2 ∨ mkE o (typesL [a, b]) = 120 := by omega
                unfold mkE at h2 ⊢
                have q' : clash o ((typesL [a, b]).headD 0) ((typesL [a, b]).getLastD 0) := q
                simp only [if_pos q'] at h2 ⊢
                split at h2
                · omega
                · split at h2
                  · omega
                  · split at h2 <;> omega
              omega
            have hab : a.1 = b.1 := by
              unfold clash at hcl; omega
            rcases doM_kind ho h with q | q
            · exact .inl q
            · right; rw [q, if_pos h6]
              unfold mkV; rw [if_pos h6]
              show a.1 = max a.1 b.1
              omega
      · rcases doM_kind ho h with q | q
        · exact .inl q
        · right; rw [q, if_neg h6]
          unfold mkV; rw [if_neg h6]
theorem doR_no {o : Int} {l : List AV} (h : (doR o l).2 ≠ 0) : (mkE o (typesL l) ≠ 120 ∨ (doR o l).2 = 120 ∨ (doR o l).2 = 2) ∧ ((doR o l).2 ≠ 120 ∨ mkE o (typesL l) = 120) := by
  unfold doR at h ⊢
  by_cases h1 : checkL l = false
  · rw [if_pos h1]; exact ⟨.inr (.inr rfl), .inl (by decide)⟩
  · simp only [if_neg h1] at h ⊢
    by_cases h2 : mkE o (typesL l) ≠ 0
    · simp only [if_pos h2] at h ⊢; omega
    · simp only [if_neg h2] at h ⊢
      have := doM_err o (l.headD z0) (l.getLastD z0) (nullL l)
      omega
theorem SumHolds7 (o : Int) (l : List AV) (w : World) (lo : Option Addr) (lc : Nat) (hl : Sl w lo 3 (l.map vVal)) (hr : ∀ r ∈ l, Rng r) (R : Ending → World → Prop)
    (h : ∀ W, Below w.heap.size w W → R (.returned (.bool true)) W) : Calls Try.prog 7 #[.int .i64 o, .slice lo l.length lc] w R := by
  refine c7 _ _ _ _ _ _ ?_
  unfold vc7
  have fin : ∀ V, Below w.heap.size w V → kCall (cR Try.prog R) V 22 #[] fun v15 w_3 => R (.returned v15) w_3 := fun V hV => kCall_i (Try.call22 _ _) (works22 _ _ fun W hB => h W ((St.start w).bel hV |>.bel hB).below)
  refine kLen22 (kBin_gtr (kIf_d (fun e4 => fin _ (Below.refl _ _)) (fun e4 => ?_)))
  refine ⟨⟨fun cs V => ∃ (i : Nat) (x : Value) (bb : Bool), cs = [x, .bool bb, .int .i64 i] ∧ i ≤ l.length ∧ St w [.row x 27 1 (typesL (l.take i)).length ((typesL (l.take i)).map vInt)] V, fun cs _ => l.length - (match cs with | [_, _, .int _ i] => i.toNat | _ => 0),
    ⟨0, _, _, rfl, Nat.zero_le _, (St.start w).adopt (o := .row (.slice none 0 0) 27 1 0 []) (World.ownsRow_nil _ _ _ _) (fun p hp => by simp at hp)⟩, ?_⟩⟩
  rintro cs ds V ⟨i, x, bb, rfl, hile, hV⟩
  dsimp only [List.getD_cons_zero, List.getD_cons_succ]
  refine kLen22 (kBin_lss (kIf_d (fun e => ?_) (fun e => ?_)))
  · have hil : i < l.length := by omega
    obtain ⟨pb, po, rfl, hat⟩ := At22.of hl (show 0 < l.length by omega)
    have hc (V' : World) (hB : Below w.heap.size w V') : V'.cell? ⟨pb, po + i * 3 + 0, none⟩ = some (.int .i64 l[i].1) := (hat V' hB).at_ i hil 0 _ rfl
    have hc2 (V' : World) (hB : Below w.heap.size w V') : V'.cell? ⟨pb, po + i * 3 + 2, none⟩ = some (.string l[i].2.2) := (hat V' hB).at_ i hil 2 _ rfl
    refine kIa22 hil (kFa49 2 (by omega) (kLdS rfl (hc2 _ hV.below) (kLen9 (kBin_gtr (kIf_d (fun e1 => fin _ hV.below) (fun e1 => ?_))))))
    refine kIa22 hil (kFa49 0 (by omega) (kLdS rfl (hc _ hV.below) (kAppInt (L := []) (E24 V) hV (by simp [typesL]; omega) fun x' V3 hV3 => ?_)))
    have et : typesL (l.take i) ++ [l[i].1] = typesL (l.take (i + 1)) := by
      unfold typesL; rw [List.take_succ_eq_append_getElem hil, List.map_append]; rfl
    rw [et] at hV3
    have hm : l.length - ((i : Int) + 1).toNat < l.length - (i : Int).toNat := by omega
    refine kIf_b (fun _ => kIa22 hil (kFa49 0 (by omega) (kLdS rfl (hc _ hV3.below) (kNe_int (kBin_add (kD_i ⟨⟨i + 1, x', l[i].1 != 0, ?_, hil, hV3⟩, ?_⟩)))))) (fun _ => kBin_add (kD_i ⟨⟨i + 1, x', false, ?_, hil, hV3⟩, ?_⟩))
    · rw [wrap_id (by omega) (by omega)]; rfl
    · rw [wrap_id (by omega) (by omega)]; exact hm
    · rw [wrap_id (by omega) (by omega)]; rfl
    · rw [wrap_id (by omega) (by omega)]; exact hm
  · have hil : i = l.length := by omega
    subst hil
    rw [List.take_length] at hV
    have hown : V.ownsRow w.heap.size 27 1 x (typesL l).length ((typesL l).map vInt) := hV.get 0 rfl
    obtain ⟨a, cp, rfl, hls⟩ := Sl.of_owns (base := w.heap.size) (e := 27) (sz := 1) (n := (typesL l).length) (vs := (typesL l).map vInt) (by simp [vInt, Value.cells]) (by rw [flatI]; exact hown) (by simp)
    have hV0 : St w [] V := hV.init (L := [])
    have finV : ∀ V', Below V.heap.size V V' → kCall (cR Try.prog R) V' 22 #[] fun v15 w_3 => R (.returned v15) w_3 := fun V' hB => fin V' (hV0.bel hB).below
    refine kCall_i (Try.call23 _ _) (Do23 o l V lo lc (hl.below hV.below) (by omega) hr _ fun W1 hB1 => kExt_0 (kExt_1 (kAlloc_st Try.zeroValue49 ((St.start V).bel hB1) fun b6 W2 hS2 => ?_)))
    have hS2 : St V ([] ++ [.bx b6 49 (vVal z0).cells]) W2 := hS2
    refine kStoreAR hS2 rfl (by simp [Value.oneCell']) Try.sizeOf49 fun W3 hS3 => ?_
    have hS3 : St V [.bx b6 49 (vVal (doR o l).1).cells] W3 := hS3
    refine kCall_i (Try.call26 _ _) (Makes26 o (typesL l) W3 a cp (hls.below hS3.below) (by simp [typesL]; omega) _ fun W4 hB4 => ?_)
    have hS4 := hS3.bel hB4
    refine kExt_0 (kExt_1 (kCall_i (Try.call25 _ _) (num25 _ _ _ (kEq_int (kIf_eq (fun e0 => ?_) (fun e0 => ?_))))))
    · obtain ⟨hm, hk⟩ := doR_ok e0
      refine kCall_i (Try.call25 _ _) (num25 _ _ _ (kEq_int (kIf_eq (fun _ => ?_) (fun q => absurd hm q))))
      refine kLoadA_st (c := ⟨Try.prog, _, false⟩) hS4 0 rfl Try.underlying49 rfl Try.sizeOf49 rfl (kBuild_i built49_0 (kEq_49 (a := (doR o l).1) (b := z0) (kIf_d (fun _ => finV _ hS4.below) (fun q => ?_))))
      refine kFa49 0 (by omega) (kLd hS4 0 rfl rfl rfl (kEq_int (kIf_eq (fun _ => finV _ hS4.below) (fun q' => absurd (hk.resolve_left q) q'))))
    · obtain ⟨h1, h2⟩ := doR_no e0
      have last : kCall (cR Try.prog R) W4 25 #[.int .i64 (doR o l).2] fun v94 w_42 => kEq (cR Try.prog R) w_42 .neq 3 (.tmp 94) (.const (.int .i64 120)) v94 (.int .i64 120) fun v95 w_43 => kIf v95 (kCall (cR Try.prog R) w_43 22 #[] fun v103 w_44 => R (.returned v103) w_44) (
          kCall (cR Try.prog R) w_43 25 #[.int .i64 (mkE o (typesL l))] fun v98 w_45 => kEq (cR Try.prog R) w_45 .eql 3 (.tmp 98) (.const (.int .i64 120)) v98 (.int .i64 120) fun v99 w_46 => kIf v99 (kCall (cR Try.prog R) w_46 22 #[] fun v103_1 w_47 => R (.returned v103_1) w_47) (R (.returned (.bool false)) w_46)) :=
        kCall_i (Try.call25 _ _) (num25 _ _ _ (kNe_int (kIf_ne (fun _ => finV _ hS4.below) (fun q => kCall_i (Try.call25 _ _) (num25 _ _ _ (kEq_int (kIf_eq (fun _ => finV _ hS4.below) (fun q' => by omega))))))))
      refine kCall_i (Try.call25 _ _) (num25 _ _ _ (kNe_int (kIf_ne (fun _ => last) (fun q => kCall_i (Try.call25 _ _) (num25 _ _ _ (kEq_int (kIf_eq (fun _ => last) (fun q1 => kCall_i (Try.call25 _ _) (num25 _ _ _ (kEq_int (kIf_eq (fun _ => last) (fun q2 => by omega))))))))))))
end Go.L
