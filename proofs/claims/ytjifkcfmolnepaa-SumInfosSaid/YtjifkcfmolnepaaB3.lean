/- Contracts of single functions: no condition but those that each states. -/
import Derived.Test.YtjifkcfmolnepaaB2
set_option linter.unusedVariables false
set_option linter.unusedSimpArgs false
namespace Go.L
open Go Go.RowKit Go.Proofs
set_option linter.unusedSimpArgs false
set_option linter.unusedVariables false

theorem RowHolds4 (a b : List AV) (w : World) (ao bo : Option Addr) (ac bc : Nat) (ha : Sl w ao 3 (a.map vVal)) (hb : Sl w bo 3 (b.map vVal)) (hal : a.length ≤ 9223372036854775807) (hbl : b.length ≤ 9223372036854775807) (hra : ∀ r ∈ a, Rng r) (hrb : ∀ r ∈ b, Rng r)
    (R : Ending → World → Prop) (h : ∀ W, Below w.heap.size w W → R (.returned (.bool true)) W) : Calls Try.prog 4 #[.slice ao a.length ac, .slice bo b.length bc] w R := by
  refine c4 _ _ _ _ _ _ _ _ ?_
  unfold vc4
  have wk : ∀ W, Below w.heap.size w W → Calls Try.prog 11 #[] W (after (fun v W => R (.returned v) W) (fun ch W => R (.panicked ch) W)) := fun W hB => works11 W _ fun W' hB' => h W' (hB.trans (hB'.mono hB.size))
  have e3 := encE_012 a
  have f3 := encE_012 b
  have hsum : ∀ x y : Int, (x = 0 ∨ x = 2 ∨ x = 3) → (y = 0 ∨ y = 2 ∨ y = 3) → IntKind.i64.wrap (x + y) = x + y := fun x y hx hy => wrap_id (by omega) (by omega)
  refine kJn_inv (fun cs W => Below w.heap.size w W ∧ a.length ≤ 40 ∧ b.length ≤ 40) ?_ ?_
  · rintro cs W1 ⟨hB1, h1, h2⟩ ds
    have hS := (St.start w).bel hB1
    refine kCall_i (Try.call18 _ _) (Encode18 a W1 ao ac (ha.below hB1) hra (by omega) _ (fun hea x W hBx hx => ?_) (fun hea W hBx => ?_))
    · have hS := hS.made hBx hx
      refine kExt_0 (kExt_1 (kCall_i (Try.call18 _ _) (Encode18 b W bo bc (hb.below hS.below) hrb (by omega) _ (fun heb y W hBy hy => ?_) (fun heb W hBy => ?_))))
      · have hS := hS.made hBy hy
        refine kExt_0 (kExt_1 (kCall_i (Try.call15 _ _) (num15 _ _ _ (kCall_i (Try.call15 _ _) (num15 _ _ _ (kBin_add (kNe_int (kIf_ne (fun hne => absurd rfl hne) (fun _ => ?_)))))))))
        -- both are encoded
        have hS : St w [.row x 5 1 (encB a).length ((encB a).map vB), .row y 5 1 (encB b).length ((encB b).map vB)] W := hS
        refine ⟨⟨fun cs W => ∃ (i : Nat) (p : Value), cs = [p, .int .i64 i] ∧ i ≤ a.length ∧ St w [.row x 5 1 (encB a).length ((encB a).map vB), .row y 5 1 (encB b).length ((encB b).map vB), .row p 3 1 i (flat (((List.range i).map (fun (j : Nat) => (j : Int))).map vInt))] W,
          fun cs _ => a.length - (match cs with | [_, .int _ i] => i.toNat | _ => 0), ⟨0, .slice none 0 0, rfl, by omega, ?_⟩, ?_⟩⟩
        · exact hS.adopt (o := .row (.slice none 0 0) 3 1 0 []) (World.ownsRow_nil _ _ _ _) (fun p hp => by
            cases hpb : p.blk with
            | none => exact .inl rfl
            | some k => exact .inr (by simp [Own.blk, Value.ownBlock]))
        rintro cs ds W ⟨i, p, rfl, hia, hS⟩
        dsimp only [List.getD_cons_zero, List.getD_cons_succ]
        refine kLen22 (kBin_lss (kIf_d (fun hlt => ?_) (fun hge => ?_)))
        · refine kBuildS_st (E23 w) hS [vInt i] rfl rfl (by omega) (by omega) (by simp [vInt, Value.cells]) fun q W hS => kAppRow_st (E23 w) hS 2 3 rfl rfl (by simp [flat, vInt, Value.cells, Value.oneCell']) (by simp [maxLen]; omega) (by omega) fun p' W hS => ?_
          have hS := hS.take 3
          refine kBin_add (kD_i ⟨⟨i + 1, p', by rw [wrap_id (by omega) (by omega)]; rfl, by omega, ?_⟩, ?_⟩)
          · have e : flat (((List.range (i + 1)).map (fun (j : Nat) => (j : Int))).map vInt) = flat (((List.range i).map (fun (j : Nat) => (j : Int))).map vInt) ++ flat [vInt (i : Int)] := by
              rw [List.range_succ]; simp only [List.map_append, List.map_cons, List.map_nil, flat, List.flatMap_append]
            rw [e]; exact hS
          · rw [wrap_id (by omega) (by omega)]; show a.length - ((i : Int) + 1).toNat < a.length - (i : Int).toNat; omega
        · have hi : i = a.length := by omega
          subst hi
          obtain ⟨hok, hpa⟩ := pick_all a
          have hrow : W.ownsRow w.heap.size 3 1 p a.length (flat (((List.range a.length).map (fun (j : Nat) => (j : Int))).map vInt)) := hS.get 2 rfl
          obtain ⟨pa, pc, rfl, hp⟩ := Sl.of_owns (vInts_size _) hrow (by simp)
          refine kCall_i (Try.call12 _ _) ?_
          have hPick := Pick12 a ((List.range a.length).map (fun (j : Nat) => (j : Int))) W ao pa ac pc (ha.below hS.below) hp (by simp; omega) (by omega)
          rw [List.length_map, List.length_range] at hPick
          refine hPick _ fun V hBe => ⟨fun hno => absurd hok hno, fun _ z hz => ?_⟩
          rw [hpa, List.length_map, List.length_range] at hz
          have hS := hS.made hBe hz
          have hrx : V.ownsRow w.heap.size 5 1 x (encB a).length ((encB a).map vB) := hS.get 0 rfl
          have hry : V.ownsRow w.heap.size 5 1 y (encB b).length ((encB b).map vB) := hS.get 1 rfl
          have hrz : V.ownsRow w.heap.size 49 3 z a.length (flat (a.map vVal)) := hS.get 3 rfl
          obtain ⟨xa, xc, rfl, hxB⟩ := Bs.of_owns hrx
          obtain ⟨ya, yc, rfl, hyB⟩ := Bs.of_owns hry
          obtain ⟨za, zc, rfl, hz⟩ := Sl.of_owns (flatMap_vVal_size a) hrz (by simp)
          have heq : decide (mkS (encB a) = mkS (encB b)) = decide (a = b) := by
            apply decide_eq_decide.2
            constructor
            · intro hm
              exact encB_inj hea heb hra hrb (mkS_inj (encB_256 (encE_bad hea)) (encB_256 (encE_bad heb)) hm)
            · rintro rfl; rfl
          refine kExt_0 (kExt_1 (kDrawn_i (kDrawn_i (kCv_str hxB (kCv_str hyB (kEq_str (kDrew_st hS fun V hS => kCall_i (Try.call14 _ _) (same14 a b V ao bo ac bc (ha.below hS.below) (hb.below hS.below) (by omega) (by omega) _ fun V hBe => ?_))))))))
          have hS := hS.bel hBe
          obtain ⟨xa2, xc2, hx2, hxB⟩ := Bs.of_owns (show V.ownsRow w.heap.size 5 1 (.slice xa (encB a).length xc) (encB a).length ((encB a).map vB) from hS.get 0 rfl)
          obtain ⟨ya2, yc2, hy2, hyB⟩ := Bs.of_owns (show V.ownsRow w.heap.size 5 1 (.slice ya (encB b).length yc) (encB b).length ((encB b).map vB) from hS.get 1 rfl)
          cases hx2; cases hy2
          refine kCv_str hxB (kSame_i (kCv_str hyB (kSame_i (kEq_str (kSame_i (kEq_b4 ?_))))))
          rw [heq, beq_self_eq_true]
          refine kIf_t (kDrew_st hS fun V hS => kCall_i (Try.call14 _ _) (same14 a a V za ao zc ac (hS.sl 3 rfl (flatMap_vVal_size a) (by simp)) (ha.below hS.below) (by omega) (by omega) _ fun V hBe => ?_))
          have hS := hS.bel hBe
          rw [decide_eq_true rfl]
          refine kIf_t (kDrew_st hS fun V hS => kCall_i (Try.call15 _ _) (num15 _ _ _ (kEq_int (kIf_t (kDrew_st hS fun V hS => kCall_i (Try.call11 _ _) ?_)))))
          refine works11 V _ fun V' hB' => kDrew_b (hS.below.trans (hB'.mono hS.size)) fun V hB => h V hB
      · have hS := hS.bel hBy
        refine kExt_0 (kExt_1 (kCall_i (Try.call15 _ _) (num15 _ _ _ (kCall_i (Try.call15 _ _) (num15 _ _ _ (kBin_add ?_))))))
        rw [hsum 0 _ (.inl rfl) f3]
        exact kNe_int (kIf_ne (fun _ => kCall_i (Try.call11 _ _) (wk _ hS.below)) (fun he => by omega))
    · have hS := hS.bel hBx
      refine kExt_0 (kExt_1 (kCall_i (Try.call18 _ _) (Encode18 b W bo bc (hb.below hS.below) hrb (by omega) _ (fun heb y W hBy hy => ?_) (fun heb W hBy => ?_))))
      · have hS := hS.made hBy hy
        refine kExt_0 (kExt_1 (kCall_i (Try.call15 _ _) (num15 _ _ _ (kCall_i (Try.call15 _ _) (num15 _ _ _ (kBin_add ?_))))))
        rw [hsum _ 0 e3 (.inl rfl)]
        exact kNe_int (kIf_ne (fun _ => kCall_i (Try.call11 _ _) (wk _ hS.below)) (fun he => by omega))
      · have hS := hS.bel hBy
        refine kExt_0 (kExt_1 (kCall_i (Try.call15 _ _) (num15 _ _ _ (kCall_i (Try.call15 _ _) (num15 _ _ _ (kBin_add ?_))))))
        rw [hsum _ _ e3 f3]
        exact kNe_int (kIf_ne (fun _ => kCall_i (Try.call11 _ _) (wk _ hS.below)) (fun he => by omega))
  · intro J hJ
    refine kCall_i (Try.call10 _ _) (few10 a w ao ac ha hal _ (kUn_not (kIf_nd (fun hno => kIf_t (kCall_i (Try.call11 _ _) (wk _ (Below.refl _ _)))) (fun h1 => ?_))))
    refine kCall_i (Try.call10 _ _) (few10 b w bo bc hb hbl _ (kUn_not (kIf_nd (fun hno => kCall_i (Try.call11 _ _) (wk _ (Below.refl _ _))) (fun h2 => ?_))))
    exact kD_i (hJ _ _ ⟨Below.refl _ _, h1.2, h2.2⟩)
end Go.L
namespace Go.L
open Go Go.RowKit Go.Proofs
set_option linter.unusedSimpArgs false
set_option linter.unusedVariables false

/-- One byte more. -/
theorem kAppByte {X : Chain → World → Prop} {w w0 : World} {L : List Own} {x : Value} {bs : List Nat} {ty : TypeId} {cs : Array Bool} {k : Value → World → Prop} {b : Nat} (hS : St w0 (.row x 5 1 bs.length (bs.map vB) :: L) w) (hm : bs.length ≤ 100000000)
    (h : ∀ x' W, St w0 (.row x' 5 1 (bs ++ [b]).length ((bs ++ [b]).map vB) :: L) W → k x' W) : kBuildS ⟨Try.prog, X, false⟩ w 38 1 #[(0, .int .u8 b)] fun v W => kBlt ⟨Try.prog, X, false⟩ W .append #[38, 38] ty cs #[x, v] k := by
  refine kBuildS_st (E38 w) hS [vB b] rfl rfl (by omega) (by omega) (by simp [vB_size]) fun y W hS => ?_
  refine kAppRow_st (E38 w) (m := 1) (ys := flat [vB b]) hS 0 (L.length + 1) rfl (by simp [List.getElem?_append_right]) (by simp [flat, vB, Value.cells, Value.oneCell']) (by simp [maxLen]; omega) (by omega) fun x' W hS => h x' W ?_
  have hS : St w0 ((.row x' 5 1 (bs.length + 1) (bs.map vB ++ flat [vB b]) :: L) ++ [.row y 5 1 1 (flat [vB b])]) W := hS
  have hS := hS.init
  have e : (bs ++ [b]).map vB = bs.map vB ++ flat [vB b] := by simp [flat, vB, Value.cells]
  rw [e, List.length_append]; exact hS
/-- What a call has made, more. -/
theorem kAppMade {X : Chain → World → Prop} {w w0 W : World} {L : List Own} {x y : Value} {bs cs' : List Nat} {ty : TypeId} {cs : Array Bool} {k : Value → World → Prop} (hS : St w0 (.row x 5 1 bs.length (bs.map vB) :: L) w) (hB : Below w.heap.size w W) (ho : W.ownsRow w.heap.size 5 1 y cs'.length (cs'.map vB)) (hm : bs.length ≤ 100000000) (hm2 : cs'.length ≤ 100000000)
    (h : ∀ x' W, St w0 (.row x' 5 1 (bs ++ cs').length ((bs ++ cs').map vB) :: L) W → k x' W) : kBlt ⟨Try.prog, X, false⟩ W .append #[38, 38] ty cs #[x, y] k := by
  have hS2 := hS.made hB ho
  refine kAppRow_st (E38 w) (m := cs'.length) (ys := cs'.map vB) hS2 0 (L.length + 1) rfl (by simp [List.getElem?_append_right]) (by simp [vB, Value.oneCell']) (by simp [maxLen]; omega) (by omega) fun x' W hS => h x' W ?_
  have hS : St w0 ((.row x' 5 1 (bs.length + cs'.length) (bs.map vB ++ cs'.map vB) :: L) ++ [.row y 5 1 cs'.length (cs'.map vB)]) W := hS
  have hS := hS.init
  rw [List.map_append, List.length_append]; exact hS
theorem kBin_remU {c : Cx} {w : World} {k : Value → World → Prop} {t : TypeId} {q : IntKind} {a b : Nat} (hb : 0 < b) (hw : q.wrap ((a % b : Nat) : Int) = ((a % b : Nat) : Int)) (h : k (.int q ((a % b : Nat) : Int)) w) : kBin c w .rem t (.int q a) (.int q b) k := ⟨kVal_pure (fun _ => by
  have h0 : ¬ (b : Int) = 0 := by omega
  have e : Int.tmod (a : Int) (b : Int) = ((a % b : Nat) : Int) := rfl
  rw [binOp_rem]; unfold Op.intDiv
  rw [if_neg (by simpa using h0)]
  simp only [e, hw]; rfl) h⟩
theorem kBin_quoU {c : Cx} {w : World} {k : Value → World → Prop} {t : TypeId} {q : IntKind} {a b : Nat} (hb : 0 < b) (hw : q.wrap ((a / b : Nat) : Int) = ((a / b : Nat) : Int)) (h : k (.int q ((a / b : Nat) : Int)) w) : kBin c w .quo t (.int q a) (.int q b) k := ⟨kVal_pure (fun _ => by
  have h0 : ¬ (b : Int) = 0 := by omega
  have e : Int.tdiv (a : Int) (b : Int) = ((a / b : Nat) : Int) := rfl
  rw [binOp_quo]; unfold Op.intDiv
  rw [if_neg (by simpa using h0)]
  simp only [e, hw]; rfl) h⟩

theorem refNumber84 (n : Nat) (hn : n < 18446744073709551616) (w : World) (R : Ending → World → Prop) (h : Makes w (numB n) R) : Calls Try.prog 84 #[.int .u64 n] w R := by
  refine c84 _ _ _ ?_
  unfold vc84
  refine ⟨⟨fun cs W => ∃ (m : Nat) (x : Value) (p : List Nat), cs = [x, .int .u64 m] ∧ St w [.row x 5 1 p.length (p.map vB)] W ∧ numB n = p ++ numB m ∧ m ≤ n,
    fun cs _ => (match cs with | [_, .int _ i] => i.toNat | _ => 0), ⟨n, _, [], rfl, (St.start w).adopt (o := .row (.slice none 0 0) 5 1 0 []) (World.ownsRow_nil _ _ _ _) (fun p hp => by simp at hp), rfl, Nat.le_refl _⟩, ?_⟩⟩
  rintro cs ds W ⟨m, x, p, rfl, hS, heq, hmn⟩
  dsimp only [List.getD_cons_zero, List.getD_cons_succ]
  have hlen := numB_len64 hn
  have hpl : p.length ≤ 10 := by rw [heq, List.length_append] at hlen; omega
  refine kBin_geq (kIf_d (fun hbig => ?_) (fun hsm => ?_))
  · have hm : 128 ≤ m := by omega
    refine kBin_remU (b := 128) (by omega) (u64_wrap (by omega)) (kBin_add ?_)
    rw [show ((m % 128 : Nat) : Int) + 128 = ((m % 128 + 128 : Nat) : Int) by omega, u64_wrap (by omega)]
    refine kCv84_5 ?_
    rw [show (((m % 128 + 128 : Nat) : Int) % 256) = ((m % 128 + 128 : Nat) : Int) by omega]
    refine kAppByte hS (by omega) fun x' W hS => kBin_quoU (b := 128) (by omega) (u64_wrap (by omega)) (kD_i ⟨⟨m / 128, x', p ++ [m % 128 + 128], rfl, hS, ?_, by omega⟩, ?_⟩)
    · rw [heq]; conv => lhs; rw [numB]
      simp [show ¬ m < 128 by omega]
    · show ((m / 128 : Nat) : Int).toNat < (m : Int).toNat; omega
  · have hm : m < 128 := by omega
    refine kCv84_5 ?_
    rw [show ((m : Int) % 256) = (m : Int) by omega]
    refine kAppByte hS (by omega) fun x' W hS => ?_
    have e : numB n = p ++ [m] := by rw [heq, numB_s m hm]
    refine h x' W hS.below ?_
    rw [e]; exact hS.get 0 rfl
theorem fold85 (n : Int) (h0 : -9223372036854775808 ≤ n) (h1 : n ≤ 9223372036854775807) (w : World) (R : Ending → World → Prop) (h : R (.returned (.int .u64 (zig n : Nat))) w) : Calls Try.prog 85 #[.int .i64 n] w R := by
  refine c85 _ _ _ ?_
  unfold vc85
  unfold zig at h
  refine kBin_geq (kIf_d (fun hn => ?_) (fun hn => ?_))
  · rw [if_pos (by omega)] at h
    refine kCv2_84 (b := n.toNat) (by omega) (kBin_mul ?_)
    rw [show IntKind.u64.wrap (2 * (n.toNat : Int)) = (((2 * n).toNat : Nat) : Int) by rw [show 2 * (n.toNat : Int) = (((2 * n).toNat : Nat) : Int) by omega, u64_wrap (by omega)]]
    exact h
  · rw [if_neg (by omega)] at h
    refine kBin_add (kNeg ?_)
    rw [wrap_id (a := n + 1) (by omega) (by omega), wrap_id (by omega) (by omega)]
    refine kCv2_84 (b := (-(n + 1)).toNat) (by omega) (kBin_mul (kBin_add ?_))
    rw [show IntKind.u64.wrap (2 * ((-(n + 1)).toNat : Int)) = ((2 * (-(n + 1)).toNat : Nat) : Int) by rw [show 2 * ((-(n + 1)).toNat : Int) = ((2 * (-(n + 1)).toNat : Nat) : Int) by omega, u64_wrap (by omega)]]
    rw [show IntKind.u64.wrap (((2 * (-(n + 1)).toNat : Nat) : Int) + 1) = (((-2 * n - 1).toNat : Nat) : Int) by rw [show ((2 * (-(n + 1)).toNat : Nat) : Int) + 1 = (((-2 * n - 1).toNat : Nat) : Int) by omega, u64_wrap (by omega)]]
    exact h
theorem refString86 (s : ByteArray) (hs : s.size ≤ 1000000) (w : World) (R : Ending → World → Prop) (h : Makes w (strB s) R) : Calls Try.prog 86 #[.string s] w R := by
  refine c86 _ _ _ ?_
  unfold vc86
  refine kLen9 (kCv3_84 (by omega) (kCall_i (Try.call84 _ _) (refNumber84 _ (by omega) _ _ fun x W hB hown => ?_)))
  have hlen := numB_len64 (n := s.size) (by omega)
  refine kAppStr hown (by omega) hB.size fun x' W' hown' hg => ?_
  refine h x' W' (below_grown hB hown hg hB.size) ?_
  rw [strB, List.length_append, bl_length, List.map_append]; exact hown'
end Go.L
namespace Go.L
open Go Go.RowKit Go.Proofs
set_option linter.unusedSimpArgs false
set_option linter.unusedVariables false

theorem kCv3_5 {X : Chain → World → Prop} {q : Bool} {w : World} {k : Value → World → Prop} {a : Nat} (ha : a < 256) (h : k (.int .u8 (a : Int)) w) : kConv ⟨Try.prog, X, q⟩ w 3 5 (.int .i64 a) k :=
  kConv_int (c := ⟨Try.prog, X, q⟩) (q' := .u8) (by rw [show (Cx.mk Try.prog X q).P.underlying 3 = _ from Try.underlying3]; rfl) Try.underlying5 (by
    have : IntKind.u8.wrap (a : Int) = (a : Int) := by simp [IntKind.wrap, IntKind.bits, IntKind.signed]; omega
    rw [this]; exact h)
theorem kCv2_5 {X : Chain → World → Prop} {q : Bool} {w : World} {k : Value → World → Prop} {a : Nat} (ha : a < 256) (h : k (.int .u8 (a : Int)) w) : kConv ⟨Try.prog, X, q⟩ w 2 5 (.int .i64 a) k :=
  kConv_int (c := ⟨Try.prog, X, q⟩) (q' := .u8) (by rw [show (Cx.mk Try.prog X q).P.underlying 2 = _ from Try.underlying2]; rfl) Try.underlying5 (by
    have : IntKind.u8.wrap (a : Int) = (a : Int) := by simp [IntKind.wrap, IntKind.bits, IntKind.signed]; omega
    rw [this]; exact h)
theorem check_cond {r : AV} (hc : checkE r = 0) : 0 ≤ r.1 ∧ r.1 ≤ 4 ∧ (r.1 = 1 → r.2.1 = 0 ∨ r.2.1 = 1) := by
  have hsz := checkE_size hc
  obtain ⟨k, n, s⟩ := r
  have hsz : s.size ≤ 1000 := hsz
  simp only [checkE] at hc
  rw [if_neg (by omega)] at hc
  split at hc
  · omega
  · rename_i hh; exact ⟨by show 0 ≤ k; omega, by show k ≤ 4; omega, by show k = 1 → n = 0 ∨ n = 1; omega⟩

theorem refEncode49 (rows : List AV) (w : World) (lo : Option Addr) (lc : Nat) (hl : Sl w lo 3 (rows.map vVal)) (hr : ∀ r ∈ rows, Rng r) (hb : rows.length ≤ 10000) (R : Ending → World → Prop)
    (h0 : encE rows = 0 → ∀ x W, Below w.heap.size w W → W.ownsRow w.heap.size 5 1 x (encB rows).length ((encB rows).map vB) → R (.returned (.tuple #[x, .int .i64 0])) W)
    (h1 : encE rows ≠ 0 → ∀ W, Below w.heap.size w W → R (.returned (.tuple #[.slice none 0 0, .int .i64 (encE rows)])) W) : Calls Try.prog 49 #[.slice lo rows.length lc] w R := by
  refine c49 _ _ _ _ _ ?_
  unfold vc49
  have hn10 := numB_len64 (n := rows.length) (by omega)
  refine kLen22 (kCv3_84 (by omega) (kCall_i (Try.call84 _ _) (refNumber84 _ (by omega) _ _ fun x0 W hB hown => ?_)))
  have hS : St w [.row x0 5 1 (numB rows.length).length ((numB rows.length).map vB)] W := (St.start w).made hB hown
  refine ⟨⟨fun cs W => ∃ (i : Nat) (x : Value), cs = [x, .int .i64 i] ∧ i ≤ rows.length ∧ (∀ r ∈ rows.take i, checkE r = 0) ∧ St w [.row x 5 1 (numB rows.length ++ (rows.take i).flatMap enc1).length ((numB rows.length ++ (rows.take i).flatMap enc1).map vB)] W,
    fun cs _ => rows.length - (match cs with | [_, .int _ i] => i.toNat | _ => 0), ⟨0, x0, rfl, by omega, by simp, by simpa using hS⟩, ?_⟩⟩
  rintro cs ds W ⟨i, x, rfl, hile, hc, hS⟩
  dsimp only [List.getD_cons_zero, List.getD_cons_succ]
  have hpre := enc_len hc (fun r h => hr r (List.mem_of_mem_take h))
  have htl : (rows.take i).length ≤ 10000 := by simp; omega
  have hml : (numB rows.length ++ (rows.take i).flatMap enc1).length ≤ 100000000 := by rw [List.length_append]; omega
  refine kLen22 (kBin_lss (kIf_d (fun hlt => ?_) (fun hge => ?_)))
  · have hi : i < rows.length := by omega
    obtain ⟨pb, po, rfl, hpb, hpr⟩ := (hl.below hS.below).elem (i := i) (v := vVal rows[i]) (by simp [hi])
    refine kIa22 hi (kLd49 hpr (kAlloc_st Try.zeroValue49 hS fun b6 W hS => kStoreA_st hS 1 rfl rfl (by simp [Value.oneCell']) Try.sizeOf49 fun W hS => kLoadA_st (c := ⟨Try.prog, _, false⟩) hS 1 rfl Try.underlying49 rfl Try.sizeOf49 rfl (kCall_i (Try.call64 _ _) (refCheckK rows[i] _ _ fun W hB => ?_))))
    have hS := hS.bel hB
    have hS : St w [.row x 5 1 (numB rows.length ++ (rows.take i).flatMap enc1).length ((numB rows.length ++ (rows.take i).flatMap enc1).map vB), .bx b6 49 (vVal rows[i]).cells] W := hS
    refine kNe_int (kIf_ne (fun hne => ?_) (fun hok => ?_))
    · have he : encE rows = checkE rows[i] := by
        have := badE_take hi hc hne
        simp [encE, this, hne]
      have := h1 (by rw [he]; exact hne) _ hS.below
      rwa [he] at this
    · have hok : checkE rows[i] = 0 := hok
      obtain ⟨hk0, hk4, hb01⟩ := check_cond hok
      have hRi := hr _ (List.getElem_mem hi)
      have hsz := checkE_size hok
      have hll := layB_len rows[i] hsz hRi
      have step : ∀ (ys : List Nat) (x' : Value) (V : World) (hy : ys = layB rows[i]), St w [.row x' 5 1 ((numB rows.length ++ (rows.take i).flatMap enc1 ++ [rows[i].1.toNat]) ++ ys).length (((numB rows.length ++ (rows.take i).flatMap enc1 ++ [rows[i].1.toNat]) ++ ys).map vB), .bx b6 49 (vVal rows[i]).cells] V →
          ∃ (j : Nat) (z : Value), [x', .int .i64 (IntKind.i64.wrap ((i : Int) + 1))] = [z, .int .i64 j] ∧ j ≤ rows.length ∧ (∀ r ∈ rows.take j, checkE r = 0) ∧ St w [.row z 5 1 (numB rows.length ++ (rows.take j).flatMap enc1).length ((numB rows.length ++ (rows.take j).flatMap enc1).map vB)] V := by
        intro ys x' V hy hV
        have ebs : numB rows.length ++ (rows.take i).flatMap enc1 ++ [rows[i].1.toNat] ++ ys = numB rows.length ++ (rows.take (i + 1)).flatMap enc1 := by
          rw [List.take_succ_eq_append_getElem hi, List.flatMap_append]
          simp [enc1, hy]
        rw [ebs] at hV
        refine ⟨i + 1, x', by rw [wrap_id (by omega) (by omega)]; rfl, hi, fun r hr => ?_, hV.take 1⟩
        rw [List.take_succ_eq_append_getElem hi] at hr
        rcases List.mem_append.1 hr with hr | hr
        · exact hc r hr
        · simp at hr; subst hr; exact hok
      have mu : rows.length - (IntKind.i64.wrap ((i : Int) + 1)).toNat < rows.length - (i : Int).toNat := by
        rw [wrap_id (by omega) (by omega)]; show rows.length - ((i : Int) + 1).toNat < rows.length - (i : Int).toNat; omega
      have hk : rows[i].1 = ((rows[i].1.toNat : Nat) : Int) := by omega
      refine kFa49 _ (by omega) (kLd hS 1 rfl (v := .int .i64 (rows[i].1.toNat : Nat)) (by rw [← hk]; rfl) rfl (kCv3_5 (by omega) (kAppByte hS hml fun x' W hS => ?_)))
      have hml2 : (numB rows.length ++ (rows.take i).flatMap enc1 ++ [rows[i].1.toNat]).length ≤ 100000000 := by rw [List.length_append, List.length_append]; simp only [List.length_singleton]; omega
      refine kFa49 _ (by omega) (kLd hS 1 rfl rfl rfl (kEq_int (kIf_eq (fun e1 => ?_) (fun e1 => kEq_int (kIf_eq (fun e2 => ?_) (fun e2 => ?_))))))
      · have e1 : rows[i].1 = 1 := e1
        have hn := hb01 e1
        have hv : rows[i].2.1 = ((rows[i].2.1.toNat : Nat) : Int) := by omega
        refine kFa49 _ (by omega) (kLd hS 1 rfl (v := .int .i64 (rows[i].2.1.toNat : Nat)) (by rw [← hv]; rfl) rfl (kCv2_5 (by omega) (kAppByte hS hml2 fun x2 W hS => kBin_add (kD_i ⟨step _ x2 W (by simp [layB, e1]) hS, mu⟩))))
      · have e2 : rows[i].1 = 2 := e2
        refine kFa49 _ (by omega) (kLd hS 1 rfl rfl rfl (kCall_i (Try.call85 _ _) (fold85 _ hRi.1 hRi.2 _ _ (kCall_i (Try.call84 _ _) (refNumber84 _ (zig_lt hRi) _ _ fun y V hB ho => ?_)))))
        have := numB_len64 (zig_lt hRi)
        exact kAppMade hS hB ho hml2 (by omega) fun x2 W hS => kBin_add (kD_i ⟨step _ x2 W (by simp [layB, e2]) hS, mu⟩)
      · have e1 : rows[i].1 ≠ 1 := e1
        have e2 : rows[i].1 ≠ 2 := e2
        refine kJn_inv (fun cs V => St w [.row x' 5 1 (numB rows.length ++ (rows.take i).flatMap enc1 ++ [rows[i].1.toNat]).length ((numB rows.length ++ (rows.take i).flatMap enc1 ++ [rows[i].1.toNat]).map vB), .bx b6 49 (vVal rows[i]).cells] V ∧ cs = [.bool (decide (rows[i].1 = 3 ∨ rows[i].1 = 4))]) ?_ ?_
        · rintro cs V ⟨hS, rfl⟩ ds
          refine kIf_d (fun e3 => ?_) (fun e3 => ?_)
          · refine kFa49 _ (by omega) (kLd hS 1 rfl rfl rfl (kCall_i (Try.call86 _ _) (refString86 _ (by omega) _ _ fun y V hB ho => ?_)))
            have hly : strB rows[i].2.2 = layB rows[i] := by simp [layB, e1, e2, e3]
            exact kAppMade hS hB ho hml2 (by rw [hly]; omega) fun x2 W hS => kBin_add (kD_i ⟨step _ x2 W hly hS, mu⟩)
          · exact kBin_add (kD_i ⟨step [] x' _ (by simp [layB, e1, e2, e3]) (by simpa using hS), mu⟩)
        · intro J hJ
          refine kEq_int (kIf_eq (fun e3 => kD_i (hJ _ _ ⟨hS, ?_⟩)) (fun e3 => kEq_int (kD_i (hJ _ _ ⟨hS, ?_⟩))))
          · have e3 : rows[i].1 = 3 := e3
            simp [e3]
          · have e3 : rows[i].1 ≠ 3 := e3
            have : (((rows[i].1 : Int) == 4)) = decide (rows[i].1 = 3 ∨ rows[i].1 = 4) := by
              by_cases e4 : rows[i].1 = 4 <;> simp [e3, e4]
            rw [← this]
  · have hi : i = rows.length := by omega
    subst hi
    rw [List.take_length] at hS hc
    have hbe := badE_all hc
    have hrow : W.ownsRow w.heap.size 5 1 x (encB rows).length ((encB rows).map vB) := hS.get 0 rfl
    obtain ⟨xa, xc, rfl, _⟩ := Bs.of_owns hrow
    have bad : ¬ (rows.length ≤ 32 ∧ (encB rows).length ≤ 4000) → R (.returned (.tuple #[.slice none 0 0, .int .i64 3])) W := fun hn => by
      have he : encE rows = 3 := by simp [encE, hbe, hn]
      have := h1 (by omega) _ hS.below
      rwa [he] at this
    refine kLen22 (kBin_gtr (kIf_d (fun h32 => kIf_t (bad (by omega))) (fun h32 => kLen38 (kBin_gtr (kIf_d (fun h4 => bad (by omega)) (fun h4 => ?_))))))
    exact h0 (by simp [encE, hbe]; omega) _ _ hS.below hrow
end Go.L
namespace Go.L
open Go Go.RowKit Go.Proofs
set_option linter.unusedSimpArgs false
set_option linter.unusedVariables false

theorem kBin_gtrU {c : Cx} {w : World} {k : Value → World → Prop} {t : TypeId} {q : IntKind} {a b : Nat} (h : k (.bool (decide (a > b))) w) : kBin c w .gtr t (.int q a) (.int q b) k := kBin_gtr (by
  have e : decide ((a : Int) > (b : Int)) = decide (a > b) := by simp
  rw [e]; exact h)

theorem u8_wrap {n : Nat} (h : n < 256) : IntKind.u8.wrap (n : Int) = n := by
  simp [IntKind.wrap, IntKind.bits, IntKind.signed]; omega

theorem refReadNum47 {W : World} {a : Option Addr} {n cp : Nat} {bs : List Nat} (hB : Bs W a n cp bs) (hbyte : ∀ b ∈ bs, b < 256) (hn : cp ≤ 9223372036854775807) (R : Ending → World → Prop)
    (h : ∀ x m, readN bs = some (x, m) → R (.returned (.tuple #[.int .u64 (x : Nat), .int .i64 (m : Nat), .int .i64 0])) W)
    (h' : readN bs = none → R (.returned (.tuple #[.int .u64 0, .int .i64 0, .int .i64 130])) W) : Calls Try.prog 47 #[.slice a n cp] W R := by
  refine c47 _ _ _ _ _ ?_
  unfold vc47
  have hcap := hB.cap
  have hlen := hB.len
  refine ⟨⟨fun cs V => V = W ∧ ∃ (i acc : Nat), cs = [.int .u64 acc, .int .u64 (128 ^ (min i 9) : Nat), .int .i64 i] ∧ i ≤ n ∧ i ≤ 10 ∧ acc < 128 ^ i ∧ readN bs = readF i (bs.drop i) acc,
    fun cs _ => n - (match cs with | [_, _, .int _ i] => i.toNat | _ => 0), ⟨rfl, 0, 0, rfl, by omega, by omega, by simp, rfl⟩, ?_⟩⟩
  rintro cs ds V ⟨rfl, i, acc, rfl, hin, hi10, hacc, heq⟩
  dsimp only [List.getD_cons_zero, List.getD_cons_succ]
  refine kJn_inv (fun cs V' => V' = V ∧ i < n ∧ i < 10) ?_ ?_
  · rintro cs V ⟨rfl, hlt, hlt10⟩ ds
    have hib : i < bs.length := by omega
    have hmin : min i 9 = i := by omega
    rw [hmin]
    have hb256 := hbyte _ (List.getElem_mem hib)
    have hdrop : readN bs = readF i (bs[i] :: bs.drop (i + 1)) acc := by rw [heq, List.drop_eq_getElem_cons hib]
    rw [readF, if_neg (by omega)] at hdrop
    have h128 : (128 : Nat) ^ i ≤ 9223372036854775808 := by
      have : (128 : Nat) ^ i ≤ 128 ^ 9 := Nat.pow_le_pow_right (by omega) (by omega)
      have : (128 : Nat) ^ 9 = 9223372036854775808 := by decide
      omega
    obtain ⟨pb, po, rfl, hpb, hpr⟩ := hB.sl.elem (i := i) (v := vB bs[i]) (by simp [hib])
    have ld := fun {X : Chain → World → Prop} {q : Bool} {k : Value → World → Prop} (h : k (.int .u8 (bs[i] : Nat)) V) => kIa38 (X := X) (q := q) (cp := cp) (k := fun v w => kLoad ⟨Try.prog, X, q⟩ w 5 v k) hlt (kLdS rfl (hpr 0 _ rfl) h)
    refine ld (kBin_remU (b := 128) (by omega) (u8_wrap (by omega)) (kCv5_84 (by omega) (kJn_inv (fun cs V' => V' = V ∧ ¬ (i = 9 ∧ 1 < bs[i])) ?_ ?_)))
    · rintro cs V ⟨rfl, hno⟩ ds
      rw [if_neg hno] at hdrop
      have hmul : bs[i] % 128 * 128 ^ i < 18446744073709551616 - acc := by
        rcases Nat.lt_or_ge i 9 with h1 | h1
        · have h2 : bs[i] % 128 * 128 ^ i ≤ 127 * 128 ^ i := Nat.mul_le_mul_right _ (by omega)
          have h3 : 128 ^ (i + 1) ≤ 128 ^ 9 := Nat.pow_le_pow_right (by omega) (by omega)
          have : (128 : Nat) ^ 9 = 9223372036854775808 := by decide
          rw [Nat.pow_succ] at h3
          omega
        · have h9 : i = 9 := by omega
          have h2 : bs[i] % 128 * 128 ^ i ≤ 1 * 128 ^ i := Nat.mul_le_mul_right _ (by omega)
          have : (128 : Nat) ^ 9 = 9223372036854775808 := by decide
          have h4 : (128 : Nat) ^ i = 9223372036854775808 := by rw [h9]
          omega
      refine kBin_mul ?_
      rw [show ((bs[i] % 128 : Nat) : Int) * ((128 ^ i : Nat) : Int) = ((bs[i] % 128 * 128 ^ i : Nat) : Int) by rw [Int.natCast_mul], u64_wrap (by omega)]
      refine kBin_add ?_
      rw [show (acc : Int) + ((bs[i] % 128 * 128 ^ i : Nat) : Int) = ((acc + bs[i] % 128 * 128 ^ i : Nat) : Int) by rw [Int.natCast_add], u64_wrap (by omega)]
      refine ld (kBin_lss (kIf_d (fun hs => ?_) (fun hs => ?_)))
      · rw [if_neg (by omega)] at hdrop
        refine kJn_inv (fun cs V' => V' = V ∧ ¬ (bs[i] = 0 ∧ 0 < i)) ?_ ?_
        · rintro cs V ⟨rfl, hno2⟩ ds
          rw [if_neg hno2] at hdrop
          refine kBin_add ?_
          rw [wrap_id (by omega) (by omega), show bs[i] % 128 = bs[i] by omega]
          exact h _ _ hdrop
        · intro J hJ
          refine kEq_int (kIf_eq (fun e0 => kBin_gtr (kIf_d (fun g => ?_) (fun g => kD_i (hJ _ _ ⟨rfl, by omega⟩)))) (fun e0 => kIf_f (kD_i (hJ _ _ ⟨rfl, by omega⟩))))
          rw [if_pos (by omega)] at hdrop
          exact h' hdrop
      · rw [if_pos (by omega)] at hdrop
        have hi9 : i ≤ 8 := by omega
        refine kBin_lss (kIf_d (fun _ => kBin_mul (kBin_add (kD_i ⟨⟨rfl, i + 1, _, ?_, hlt, by omega, ?_, hdrop⟩, ?_⟩))) (fun hge => absurd (by omega) hge))
        · have h3 : (128 : Nat) ^ (i + 1) ≤ 128 ^ 9 := Nat.pow_le_pow_right (by omega) (by omega)
          have : (128 : Nat) ^ 9 = 9223372036854775808 := by decide
          rw [show ((128 ^ i : Nat) : Int) * 128 = ((128 ^ (i + 1) : Nat) : Int) by rw [Nat.pow_succ, Int.natCast_mul]; rfl, u64_wrap (by omega), wrap_id (by omega) (by omega), show min (i + 1) 9 = i + 1 by omega]
          rfl
        · have : bs[i] % 128 * 128 ^ i ≤ 127 * 128 ^ i := Nat.mul_le_mul_right _ (by omega)
          rw [Nat.pow_succ]; omega
        · rw [wrap_id (by omega) (by omega)]; show n - ((i : Int) + 1).toNat < n - (i : Int).toNat; omega
    · intro J hJ
      refine kEq_int (kIf_eq (fun e9 => ld (kBin_gtr (kIf_d (fun g => ?_) (fun g => kD_i (hJ _ _ ⟨rfl, by omega⟩))))) (fun e9 => kIf_f (kD_i (hJ _ _ ⟨rfl, by omega⟩))))
      rw [if_pos (by omega)] at hdrop
      exact h' hdrop
  · intro J hJ
    have bad : ¬ (i < n ∧ i < 10) → R (.returned (.tuple #[.int .u64 0, .int .i64 0, .int .i64 130])) V := fun hno => by
      refine h' ?_
      rw [heq]
      by_cases h10 : 10 ≤ i
      · exact readF_ge h10 _ _
      · rw [List.drop_eq_nil_of_le (by omega)]; rfl
    refine kLen38 (kBin_lss (kIf_d (fun hlt => kBin_lss (kIf_d (fun hlt2 => kD_i (hJ _ _ ⟨rfl, by omega, by omega⟩)) (fun hge => bad (by omega)))) (fun hge => kIf_f (bad (by omega)))))

theorem kSl38_lh {X : Chain → World → Prop} {q : Bool} {w : World} {k : Value → World → Prop} {a : Option Addr} {n cp l m : Nat} (h0 : l ≤ m) (h1 : m ≤ cp) (h : k (.slice (if cp = l then a else a.map (·.add (l * 1))) (m - l) (cp - l)) w) : kSl ⟨Try.prog, X, q⟩ w 38 (.slice a n cp) (some (.int .i64 l)) (some (.int .i64 m)) none k :=
  ⟨kVal_pure (c := ⟨Try.prog, X, q⟩) (fun w' => by
    rw [run_sliceAt_slice w' 38 _ _ _ _ (elem_of Try.underlying38), run_slice_lh w' 38 a n cp (elem_of Try.underlying38) .i64 .i64 l m (by omega) (by omega) (by omega)]
    rw [show Try.prog.elem 38 = 5 by simp [Program.elem, Try.underlying38], Try.sizeOf5]
    rfl) h⟩
end Go.L
namespace Go.L
open Go Go.RowKit Go.Proofs
set_option linter.unusedSimpArgs false
set_option linter.unusedVariables false

theorem Bs.takeA {W : World} {a : Option Addr} {n cp : Nat} {bs : List Nat} (h : Bs W a n cp bs) {l m : Nat} (hl : l ≤ n) (hm : l ≤ m) : Bs W a l m (bs.take l) := by
  have := h.take hl hm
  have e : (if m = 0 then a else a.map (·.add (0 * 1))) = a := by
    split
    · rfl
    · cases a <;> simp [Addr.add]
  rwa [e] at this

theorem refReadString83 {W : World} {a : Option Addr} {n cp : Nat} {bs : List Nat} (hB : Bs W a n cp bs) (hbyte : ∀ b ∈ bs, b < 256) (hn : cp ≤ 9223372036854775807) (R : Ending → World → Prop)
    (h : ∀ s m, readS bs = some (s, m) → R (.returned (.tuple #[.string (mkS s), .int .i64 (m : Nat), .int .i64 0])) W)
    (h' : readS bs = none → R (.returned (.tuple #[.string ⟨#[]⟩, .int .i64 0, .int .i64 130])) W) : Calls Try.prog 83 #[.slice a n cp] W R := by
  refine c83 _ _ _ _ _ ?_
  unfold vc83
  have hcap := hB.cap
  have hlen := hB.len
  refine kCall_i (Try.call47 _ _) (refReadNum47 hB hbyte hn _ (fun x m hr => ?_) (fun hr => ?_))
  · have hm := readN_le hr
    have hx := readN_val hbyte hr
    refine kExt3_0 (kExt3_1 (kExt3_2 (kJn_inv (fun cs V => V = W ∧ x ≤ n - m) ?_ ?_)))
    · rintro cs V ⟨rfl, hle⟩ ds
      refine kCv84_3 (by omega) (kBin_add ?_)
      rw [wrap_id (by omega) (by omega), show (m : Int) + (x : Int) = ((m + x : Nat) : Int) by omega]
      refine kSl38_lh (by omega) (by omega) ?_
      have hD := (hB.drop (l := m) (by omega)).takeA (l := x) (m := cp - m) hle (by omega)
      rw [show m + x - m = x by omega]
      refine kCv_str hD (kCv84_3 (by omega) (kBin_add ?_))
      rw [wrap_id (by omega) (by omega)]
      exact h _ _ (by simp [readS, hr]; omega)
    · intro J hJ
      refine kNe_int (kIf_ne (fun h0 => absurd rfl h0) (fun _ => kLen38 (kBin_sub ?_)))
      rw [wrap_id (by omega) (by omega), show (n : Int) - (m : Int) = ((n - m : Nat) : Int) by omega]
      refine kCv3_84 (by omega) (kBin_gtrU (kIf_d (fun hg => ?_) (fun hle => kD_i (hJ _ _ ⟨rfl, by omega⟩))))
      exact h' (by simp [readS, hr]; omega)
  · refine kExt3_0 (kExt3_1 (kExt3_2 (kJn_i (kNe_int (kIf_ne (fun _ => kIf_t (h' (by simp [readS, hr]))) (fun h0 => absurd h0 (by decide)))))))

/-- As the reference reads a value: a bool is 0 or 1. -/
def readV1 (bs : List Nat) : Option (AV × Nat) :=
  match readV bs with
  | some (r, m) => if r.1 = 1 ∧ 1 < r.2.1 then none else some (r, m)
  | none => none

theorem RetK_agg1 {R : Ending → World → Prop} {w w0 : World} {L : List Own} (hS : St w0 L w) (i : Nat) {b : Nat} {cs : Array Value} {v : Value} (hi : L[i]? = some (.bx b 49 cs)) (hn : cs.size = 3) (h : R (.returned (.tuple #[.agg cs, v])) w) : RetK Try.prog [.cell (.pointer (some ⟨b, 0, none⟩)) 49, .val v] R w := by
  refine ⟨.tuple #[.agg cs, v], ?_, h⟩
  have := run_loadVar_row (P := Try.prog) w b 49 49 cs (0, 0) _ (hS.get i hi).2 Try.underlying49 rfl (by rw [info_of (Try.typeInfo49 w), hn]; rfl)
  simp [resSem, asAddr, this]
theorem built49_0 : Try.prog.built 49 [] = some #[.int .i64 0, .int .i64 0, .string ⟨#[]⟩] := by
  have h1 := info_of (Try.typeInfo49 default)
  have h2 := info_of (Try.typeInfo47 default)
  have h3 := info_of (Try.typeInfo2 default)
  have h4 := info_of (Try.typeInfo9 default)
  simp [Program.built, h1, h2, h3, h4, Try.underlying49, Try.t49, Instr.fill, Value.cells]

theorem one48 {w : World} {a : Option Addr} {n cp : Nat} {bs : List Nat} (hB : Bs w a n cp bs) (hbyte : ∀ b ∈ bs, b < 256) (hn : cp ≤ 9223372036854775807) (R : Ending → World → Prop)
    (h : ∀ r m, readV1 bs = some (r, m) → ∀ W, Below w.heap.size w W → R (.returned (.tuple #[vVal r, .int .i64 (m : Nat)])) W)
    (h' : readV1 bs = none → ∀ W, Below w.heap.size w W → R (.returned (.tuple #[vVal (0, 0, ⟨#[]⟩), .int .i64 0])) W) : Calls Try.prog 48 #[.slice a n cp] w R := by
  refine c48 _ _ _ _ _ ?_
  unfold vc48
  have hlen := hB.len
  have hcap := hB.cap
  refine kAlloc_st Try.zeroValue49 (St.start w) fun b2 W hS => ?_
  have hS : St w [.bx b2 49 (vVal (0, 0, ⟨#[]⟩)).cells] W := hS
  have none' : readV1 bs = none → ∀ (L : List Own) (V : World), St w (.bx b2 49 (vVal (0, 0, ⟨#[]⟩)).cells :: L) V → kBuild (cR Try.prog R) V 49 #[] fun v w => kStore (cR Try.prog R) w 49 (.pointer (some ⟨b2, 0, none⟩)) v fun w' => RetK Try.prog [.cell (.pointer (some ⟨b2, 0, none⟩)) 49, .val (.int .i64 0)] R w' := by
    intro hnone L V hV
    refine kBuild_i built49_0 (kStoreA_st hV 0 rfl rfl (by simp [Value.oneCell']) Try.sizeOf49 fun V hV => RetK_agg1 hV 0 rfl rfl (h' hnone V hV.below))
  cases bs with
  | nil =>
    have : n = 0 := hlen
    subst this
    exact kLen38 (kEq_int (kIf_eq (fun _ => none' rfl [] W hS) (fun hne => absurd rfl hne)))
  | cons k rest =>
    have hk := hbyte k (List.mem_cons_self ..)
    have hrest : ∀ b ∈ rest, b < 256 := fun b hb => hbyte b (List.mem_cons_of_mem _ hb)
    have hn1 : n = rest.length + 1 := hlen
    obtain ⟨pb, po, rfl, hpb, hpr⟩ := hB.sl.elem (i := 0) (v := vB k) rfl
    have hD := hB.drop (l := 1) (by omega)
    simp only [List.drop_succ_cons, List.drop_zero] at hD
    have ld := fun {X : Chain → World → Prop} {q : Bool} {V : World} {kk : Value → World → Prop} (hV : Below w.heap.size w V) (h : kk (.int .u8 (k : Nat)) V) => kIa38 (X := X) (q := q) (w := V) (n := n) (cp := cp) (b := pb) (o := po) (i := 0) (k := fun v w => kLoad ⟨Try.prog, X, q⟩ w 5 v kk) (by omega) (kLdS rfl ((rangeAt_keep hpr (hV.block _ hpb)) 0 _ rfl) h)
    refine kLen38 (kEq_int (kIf_eq (fun h0 => by omega) (fun _ => ld hS.below (kConv_int (c := ⟨Try.prog, _, false⟩) (q' := .i64) (by rw [show (Cx.mk Try.prog _ false).P.underlying 5 = _ from Try.underlying5]; rfl) Try.underlying3 ?_))))
    rw [wrap_id (by omega) (by omega)]
    refine kBuild_i (built49 _) (kAlloc_st Try.zeroValue49 hS fun b4 W hS => kStoreA_st hS 1 rfl rfl (by simp [Value.oneCell']) Try.sizeOf49 fun W hS => ?_)
    have hS : St w [.bx b2 49 (vVal (0, 0, ⟨#[]⟩)).cells, .bx b4 49 (vVal (k, 0, ⟨#[]⟩)).cells] W := hS
    have fin : ∀ (r : AV) (m : Nat) (V : World), readV1 (k :: rest) = some (r, m) → St w [.bx b2 49 (vVal (0, 0, ⟨#[]⟩)).cells, .bx b4 49 (vVal r).cells] V → kStore (cR Try.prog R) V 49 (.pointer (some ⟨b2, 0, none⟩)) (vVal r) fun w' => RetK Try.prog [.cell (.pointer (some ⟨b2, 0, none⟩)) 49, .val (.int .i64 (m : Nat))] R w' := by
      intro r m V hr hV
      exact kStoreA_st hV 0 rfl rfl (by simp [Value.oneCell']) Try.sizeOf49 fun V hV => RetK_agg1 hV 0 rfl rfl (h r m hr V hV.below)
    refine ld hS.below (kEq_int (kIf_eq (fun e0 => ?_) (fun e0 => kEq_int (kIf_eq (fun e1 => ?_) (fun e1 => kEq_int (kIf_eq (fun e2 => ?_) (fun e2 => ?_)))))))
    · have e0 : k = 0 := by omega
      subst e0
      exact kLoadA_st (c := ⟨Try.prog, _, false⟩) hS 1 rfl Try.underlying49 rfl Try.sizeOf49 rfl (fin (0, 0, ⟨#[]⟩) 1 W (by simp [readV1, readV]) hS)
    · have e1 : k = 1 := by omega
      subst e1
      cases rest with
      | nil =>
        have hn2 : n = 1 := hn1
        subst hn2
        refine kJn_i (kLen38 (kBin_gtr (kIf_d (fun hg => by omega) (fun _ => kD_i fun ds => kIf_f (none' (by simp [readV1, readV]) _ W hS)))))
      | cons c rest =>
        have hc := hrest c (List.mem_cons_self ..)
        have hnn : 1 < n := by rw [hn1]; simp
        obtain ⟨pb2, po2, he2, hpb2, hpr2⟩ := hB.sl.elem (i := 1) (v := vB c) rfl
        cases he2
        have ld1 := fun {X : Chain → World → Prop} {q : Bool} {V : World} {kk : Value → World → Prop} (hV : Below w.heap.size w V) (h : kk (.int .u8 (c : Nat)) V) => kIa38 (X := X) (q := q) (w := V) (n := n) (cp := cp) (b := pb) (o := po) (i := 1) (k := fun v w => kLoad ⟨Try.prog, X, q⟩ w 5 v kk) hnn (kLdS rfl ((rangeAt_keep hpr2 (hV.block _ hpb2)) 0 _ rfl) h)
        refine kJn_inv (fun cs V => St w [.bx b2 49 (vVal (0, 0, ⟨#[]⟩)).cells, .bx b4 49 (vVal (1, 0, ⟨#[]⟩)).cells] V ∧ cs = [.bool (decide (c ≤ 1))]) ?_ ?_
        · rintro cs V ⟨hS, rfl⟩ ds
          refine kIf_d (fun hc1 => ?_) (fun hc1 => none' (by simp [readV1, readV]; omega) _ V hS)
          refine ld1 hS.below (kCv5_2 hc (kFa49 _ (by omega) (kSt hS 1 rfl (by decide) rfl rfl rfl fun V hS => ?_)))
          have hS : St w [.bx b2 49 (vVal (0, 0, ⟨#[]⟩)).cells, .bx b4 49 (vVal (1, c, ⟨#[]⟩)).cells] V := hS
          exact kLoadA_st (c := ⟨Try.prog, _, false⟩) hS 1 rfl Try.underlying49 rfl Try.sizeOf49 rfl (fin (1, c, ⟨#[]⟩) 2 V (by simp [readV1, readV]; omega) hS)
        · intro J hJ
          refine kLen38 (kBin_gtr (kIf_d (fun _ => ld1 hS.below (kBin_leq (kD_i (hJ _ _ ⟨hS, ?_⟩)))) (fun hno => by omega)))
          have e : decide ((c : Int) ≤ 1) = decide (c ≤ 1) := by apply decide_eq_decide.2; omega
          rw [e]
    · have e2 : k = 2 := by omega
      subst e2
      refine kSl38_l (l := 1) (by omega) ?_
      refine kCall_i (Try.call47 _ _) (refReadNum47 (hD.keep hS.below) hrest (by omega) _ (fun x m hr => ?_) (fun hr => ?_))
      · have hx := readN_val hrest hr
        have hm := readN_le hr
        have hv : readV1 (2 :: rest) = some ((2, unzig x, ⟨#[]⟩), m + 1) := by simp [readV1, readV, hr, Nat.add_comm]
        refine kExt3_0 (kExt3_1 (kExt3_2 (kEq_int (kIf_eq (fun _ => ?_) (fun h0 => absurd rfl h0)))))
        refine kBin_quoU (b := 2) (by omega) (u64_wrap (by omega)) (kCv84_2 (by omega) (kFa49 _ (by omega) (kSt hS 1 rfl (by show 0 + 1 < 3; omega) rfl rfl rfl fun W hS => ?_)))
        have hS : St w [.bx b2 49 (vVal (0, 0, ⟨#[]⟩)).cells, .bx b4 49 (vVal (2, (x / 2 : Nat), ⟨#[]⟩)).cells] W := hS
        refine kJn_inv (fun cs V => St w [.bx b2 49 (vVal (0, 0, ⟨#[]⟩)).cells, .bx b4 49 (vVal (2, unzig x, ⟨#[]⟩)).cells] V) ?_ ?_
        · rintro cs V hS ds
          refine kLoadA_st (c := ⟨Try.prog, _, false⟩) hS 1 rfl Try.underlying49 rfl Try.sizeOf49 rfl (kBin_add ?_)
          rw [wrap_id (by omega) (by omega)]
          exact fin (2, unzig x, ⟨#[]⟩) (m + 1) V hv hS
        · intro J hJ
          refine kBin_remU (b := 2) (by omega) (u64_wrap (by omega)) (kEq_int (kIf_eq (fun e => ?_) (fun e => kD_i (hJ _ _ ?_))))
          · refine kFa49 _ (by omega) (kLd hS 1 rfl rfl rfl (kNeg (kBin_sub (kFa49 _ (by omega) (kSt hS 1 rfl (by show 0 + 1 < 3; omega) rfl rfl rfl fun W hS => kD_i (hJ _ _ ?_))))))
            have he : IntKind.i64.wrap (IntKind.i64.wrap (-((x / 2 : Nat) : Int)) - 1) = unzig x := by
              rw [wrap_id (a := -((x / 2 : Nat) : Int)) (by omega) (by omega), wrap_id (by omega) (by omega)]
              unfold unzig; rw [if_neg (by omega)]
            rw [he] at hS
            exact hS
          · have he : unzig x = ((x / 2 : Nat) : Int) := by unfold unzig; rw [if_pos (by omega)]
            rw [he]; exact hS
      · refine kExt3_0 (kExt3_1 (kExt3_2 (kEq_int (kIf_eq (fun h0 => absurd h0 (by decide)) (fun _ => none' (by simp [readV1, readV, hr]) _ W hS)))))
    · refine kJn_inv (fun cs V => St w [.bx b2 49 (vVal (0, 0, ⟨#[]⟩)).cells, .bx b4 49 (vVal (k, 0, ⟨#[]⟩)).cells] V ∧ cs = [.bool (decide (k = 3 ∨ k = 4))]) ?_ ?_
      · rintro cs V ⟨hS, rfl⟩ ds
        refine kIf_d (fun e3 => ?_) (fun e3 => ?_)
        · have hrv : readV1 (k :: rest) = match readS rest with
            | some (s, m) => some (((k : Int), 0, mkS s), m + 1)
            | none => none := by
            cases hs : readS rest with
            | none => rcases e3 with rfl | rfl <;> simp [readV1, readV, hs]
            | some p => rcases e3 with rfl | rfl <;> simp [readV1, readV, hs, Nat.add_comm]
          refine kSl38_l (l := 1) (by omega) ?_
          refine kCall_i (Try.call83 _ _) (refReadString83 (hD.keep hS.below) hrest (by omega) _ (fun s m hr => ?_) (fun hr => ?_))
          · rw [hr] at hrv
            have hml : m ≤ rest.length := by
              simp only [readS] at hr
              cases hq : readN rest with
              | none => rw [hq] at hr; cases hr
              | some p =>
                obtain ⟨x, m'⟩ := p
                have hm := readN_le hq
                rw [hq] at hr
                simp only [] at hr
                split at hr
                · cases hr; omega
                · cases hr
            refine kExt3_0 (kExt3_1 (kExt3_2 (kEq_int (kIf_eq (fun _ => ?_) (fun h0 => absurd rfl h0)))))
            refine kFa49 _ (by omega) (kSt hS 1 rfl (by show 0 + 2 < 3; omega) rfl rfl rfl fun W hS => ?_)
            have hS : St w [.bx b2 49 (vVal (0, 0, ⟨#[]⟩)).cells, .bx b4 49 (vVal (k, 0, mkS s)).cells] W := hS
            refine kLoadA_st (c := ⟨Try.prog, _, false⟩) hS 1 rfl Try.underlying49 rfl Try.sizeOf49 rfl (kBin_add ?_)
            rw [show IntKind.i64.wrap ((m : Int) + 1) = ((m + 1 : Nat) : Int) by rw [wrap_id (by omega) (by omega)]; rfl]
            exact fin ((k : Int), 0, mkS s) (m + 1) W hrv hS
          · rw [hr] at hrv
            exact kExt3_0 (kExt3_1 (kExt3_2 (kEq_int (kIf_eq (fun h0 => absurd h0 (by decide)) (fun _ => none' hrv _ V hS)))))
        · exact none' (by simp only [readV1, readV]; rw [if_neg (by omega), if_neg (by omega), if_neg (by omega), if_neg e3]) _ V hS
      · intro J hJ
        refine kEq_int (kIf_eq (fun e3 => kD_i (hJ _ _ ⟨hS, ?_⟩)) (fun e3 => kEq_int (kD_i (hJ _ _ ⟨hS, ?_⟩))))
        · have : k = 3 := by omega
          subst this; rfl
        · have h3 : k ≠ 3 := by omega
          by_cases h4 : k = 4
          · subst h4; rfl
          · have : ¬ ((k : Int) = 4) := by omega
            simp [h3, h4, this]
end Go.L
namespace Go.L
open Go Go.RowKit Go.Proofs
set_option linter.unusedSimpArgs false
set_option linter.unusedVariables false

def readVs1 : Nat → List Nat → Option (List AV × Nat)
  | 0, _ => some ([], 0)
  | n + 1, bs =>
    match readV1 bs with
    | none => none
    | some (r, m) =>
      match readVs1 n (bs.drop m) with
      | none => none
      | some (rs, k) => some (r :: rs, m + k)
theorem readV1_some {bs : List Nat} {r : AV} {m : Nat} (h : readV1 bs = some (r, m)) : readV bs = some (r, m) := by
  simp only [readV1] at h
  cases hr : readV bs with
  | none => rw [hr] at h; cases h
  | some p =>
    obtain ⟨r', m'⟩ := p
    rw [hr] at h
    simp only [] at h
    split at h
    · cases h
    · cases h; rfl
theorem readVs1_some : ∀ (n : Nat) (bs : List Nat) (rs : List AV) (k : Nat), readVs1 n bs = some (rs, k) → readVs n bs = some (rs, k)
  | 0, bs, rs, k, h => by simpa [readVs1, readVs] using h
  | n + 1, bs, rs, k, h => by
    simp only [readVs1] at h
    cases hr : readV1 bs with
    | none => rw [hr] at h; cases h
    | some p =>
      obtain ⟨r, m⟩ := p
      rw [hr] at h
      simp only [] at h
      cases hq : readVs1 n (bs.drop m) with
      | none => rw [hq] at h; cases h
      | some p =>
        obtain ⟨rs', k'⟩ := p
        rw [hq] at h; cases h
        simp only [readVs, readV1_some hr, readVs1_some n _ _ _ hq]
theorem badE_of {rs : List AV} (h : ∃ r ∈ rs, checkE r ≠ 0) : badE rs ≠ 0 := fun hb => by
  obtain ⟨r, hr, hc⟩ := h
  exact hc (badE_zero hb r hr)
theorem readVs1_none : ∀ (n : Nat) (bs : List Nat), readVs1 n bs = none → readVs n bs = none ∨ ∃ rs k, readVs n bs = some (rs, k) ∧ ∃ r ∈ rs, checkE r ≠ 0
  | 0, bs, h => by simp [readVs1] at h
  | n + 1, bs, h => by
    simp only [readVs1] at h
    cases hr : readV bs with
    | none => left; simp [readVs, hr]
    | some p =>
      obtain ⟨r, m⟩ := p
      cases hq : readVs n (bs.drop m) with
      | none => left; simp [readVs, hr, hq]
      | some p =>
        obtain ⟨rs, k⟩ := p
        right
        refine ⟨r :: rs, m + k, by simp [readVs, hr, hq], ?_⟩
        by_cases hb : r.1 = 1 ∧ 1 < r.2.1
        · refine ⟨r, List.mem_cons_self .., fun hc => ?_⟩
          have := (check_cond hc).2.2 hb.1
          omega
        · have h1 : readV1 bs = some (r, m) := by simp only [readV1, hr]; rw [if_neg hb]
          rw [h1] at h
          simp only [] at h
          cases hq1 : readVs1 n (bs.drop m) with
          | some p => rw [hq1] at h; cases h
          | none =>
            rcases readVs1_none n _ hq1 with h2 | ⟨rs', k', h2, q, hqm, hqc⟩
            · rw [hq] at h2; cases h2
            · rw [hq] at h2; cases h2
              exact ⟨q, List.mem_cons_of_mem _ hqm, hqc⟩
theorem readS_le {bs : List Nat} {s : List Nat} {m : Nat} (hr : readS bs = some (s, m)) : m ≤ bs.length := by
  simp only [readS] at hr
  cases hq : readN bs with
  | none => rw [hq] at hr; cases hr
  | some p =>
    obtain ⟨x, m'⟩ := p
    have hm := readN_le hq
    rw [hq] at hr
    simp only [] at hr
    split at hr
    · cases hr; omega
    · cases hr
theorem readV_le {bs : List Nat} {r : AV} {m : Nat} (h : readV bs = some (r, m)) : 0 < m ∧ m ≤ bs.length := by
  cases bs with
  | nil => simp [readV] at h
  | cons k rest =>
    simp only [readV] at h
    split at h
    · cases h; simp
    split at h
    · cases rest with
      | nil => cases h
      | cons c rest => cases h; simp
    split at h
    · cases hr : readN rest with
      | none => rw [hr] at h; cases h
      | some p =>
        obtain ⟨x, m'⟩ := p
        have := readN_le hr
        rw [hr] at h; cases h; simp; omega
    split at h
    · cases hr : readS rest with
      | none => rw [hr] at h; cases h
      | some p =>
        obtain ⟨s, m'⟩ := p
        have := readS_le hr
        rw [hr] at h; cases h; simp; omega
    · cases h

/-- What the reference tells is what the program tells. -/
theorem decR_ref {bs : List Nat} {x m : Nat} (hr : readN bs = some (x, m)) (hx : x ≤ 32) (hb : ∀ b ∈ bs, b < 256) :
    (readVs1 x (bs.drop m) = none → decR bs = none) ∧ ∀ rs t, readVs1 x (bs.drop m) = some (rs, t) → (encE rs ≠ 0 → decR bs = none) ∧ (encE rs = 0 → (m + t ≠ bs.length → decR bs = none) ∧ (encB rs ≠ bs → decR bs = none) ∧ (encB rs = bs → decR bs = some rs)) := by
  refine ⟨fun h => ?_, fun rs t h => ?_⟩
  · rcases readVs1_none _ _ h with h | ⟨rs, k, h, hbad⟩
    · simp only [decR, hr, if_pos hx, h]
    · simp only [decR, hr, if_pos hx, h]
      rw [if_neg (fun hh => badE_of hbad (encE_bad hh.1))]
  · have h2 := readVs1_some _ _ _ _ h
    have hd : decR bs = if encE rs = 0 ∧ encB rs = bs then some rs else none := by simp only [decR, hr, if_pos hx, h2]
    refine ⟨fun he => by rw [hd, if_neg (fun hh => he hh.1)], fun he => ⟨fun hl => ?_, fun hne => by rw [hd, if_neg (fun hh => hne hh.2)], fun heq => by rw [hd, if_pos ⟨he, heq⟩]⟩⟩
    rw [hd]
    refine if_neg fun hh => hl ?_
    have hbn := enc_bound he
    have e1 := readN_numB rs.length (by omega) (rs.flatMap enc1)
    have e0 : encB rs = numB rs.length ++ rs.flatMap enc1 := rfl
    rw [← e0, hh.2, hr] at e1
    cases e1
    have hdrop : bs.drop (numB rs.length).length = rs.flatMap enc1 := by rw [← hh.2, e0, List.drop_left]
    have hrng : ∀ (n : Nat) (bs : List Nat) (rs : List AV) (k : Nat), (∀ b ∈ bs, b < 256) → readVs n bs = some (rs, k) → ∀ r ∈ rs, Rng r := by
      intro n
      induction n with
      | zero => intro bs rs k _ h r hr; simp [readVs] at h; rw [h.1] at hr; cases hr
      | succ n ih =>
        intro bs rs k hb h r hr
        simp only [readVs] at h
        cases hv : readV bs with
        | none => rw [hv] at h; cases h
        | some p =>
          obtain ⟨q, m'⟩ := p
          rw [hv] at h
          simp only [] at h
          cases hq : readVs n (bs.drop m') with
          | none => rw [hq] at h; cases h
          | some p =>
            obtain ⟨rs', k'⟩ := p
            rw [hq] at h; cases h
            rcases List.mem_cons.1 hr with rfl | hr
            · exact readV_rng hb hv
            · exact ih _ _ _ (fun b h => hb b (List.mem_of_mem_drop h)) hq r hr
    have e2 := readVs_enc [] rs (badE_zero (encE_bad he)) (hrng _ _ _ _ (fun b h => hb b (List.mem_of_mem_drop h)) h2)
    rw [List.append_nil, ← hdrop, h2] at e2
    cases e2
    rw [List.length_drop]
    have := readN_le hr
    omega
end Go.L
namespace Go.L
open Go Go.RowKit Go.Proofs
set_option linter.unusedSimpArgs false
set_option linter.unusedVariables false

theorem kNe_str' {c : Cx} {w : World} {k : Value → World → Prop} {t : TypeId} {a b : ByteArray} {ox oy : Operand} (h : k (.bool (!decide (a = b))) w) : kEq c w .neq t ox oy (.string a) (.string b) k := kNe_str h

theorem refDecode20 (bs : List Nat) (w : World) (a : Option Addr) (n cp : Nat) (hB : Bs w a n cp bs) (hbyte : ∀ b ∈ bs, b < 256) (hn : cp ≤ 9223372036854775807) (R : Ending → World → Prop)
    (h0 : ∀ rs, decR bs = some rs → ∀ x W, Below w.heap.size w W → W.ownsRow w.heap.size 49 3 x rs.length (flat (rs.map vVal)) → R (.returned (.tuple #[x, .int .i64 0])) W)
    (h1 : decR bs = none → ∀ W, Below w.heap.size w W → R (.returned (.tuple #[.slice none 0 0, .int .i64 210])) W) : Calls Try.prog 20 #[.slice a n cp] w R := by
  refine c20 _ _ _ _ _ ?_
  unfold vc20
  have hlen := hB.len
  have hcap := hB.cap
  refine kCall_i (Try.call47 _ _) (refReadNum47 hB hbyte hn _ (fun N m hr => ?_) (fun hr => ?_))
  · have hm := readN_le hr
    refine kExt3_0 (kExt3_1 (kExt3_2 (kJn_inv (fun cs V => V = w ∧ N ≤ 32) ?_ ?_)))
    · rintro cs V ⟨rfl, hN⟩ ds
      obtain ⟨hnone, hsome⟩ := decR_ref hr hN hbyte
      refine ⟨⟨fun cs W => ∃ (i at_ : Nat) (rs : List AV) (x : Value), cs = [x, .int .i64 at_, .int .i64 i] ∧ i ≤ N ∧ rs.length = i ∧ m ≤ at_ ∧ at_ ≤ n ∧ (∀ r ∈ rs, Rng r) ∧ readVs1 N (bs.drop m) = (readVs1 (N - i) (bs.drop at_)).map (fun p => (rs ++ p.1, (at_ - m) + p.2)) ∧ St V [.row x 49 3 i (flat (rs.map vVal))] W,
        fun cs _ => N - (match cs with | [_, _, .int _ i] => i.toNat | _ => 0), ⟨0, m, [], .slice none 0 0, rfl, by omega, rfl, Nat.le_refl _, by omega, by simp, by simp, (St.start V).adopt (o := .row (.slice none 0 0) 49 3 0 []) (World.ownsRow_nil _ _ _ _) (fun p hp => by simp at hp)⟩, ?_⟩⟩
      rintro cs ds W ⟨i, at_, rs, x, rfl, hiN, hrs, hma, hat, hrng, heq, hS⟩
      dsimp only [List.getD_cons_zero, List.getD_cons_succ]
      refine kCv84_3 (by omega) (kBin_lssU (kIf_d (fun hlt => ?_) (fun hge => ?_)))
      · have hNi : N - i = (N - (i + 1)) + 1 := by omega
        have hD := hB.drop (l := at_) (by omega)
        have hbd : ∀ b ∈ bs.drop at_, b < 256 := fun b hb => hbyte b (List.mem_of_mem_drop hb)
        refine kSl38_l (l := at_) hat (kCall_i (Try.call48 _ _) (one48 (hD.keep hS.below) hbd (by omega) _ (fun r m' hv W' hBe => ?_) (fun hv W' hBe => ?_)))
        · have hS := hS.bel hBe
          have hml := readV_le (readV1_some hv)
          rw [List.length_drop] at hml
          refine kExt_0 (kExt_1 (kAlloc_st Try.zeroValue49 hS fun b9 W hS => kStoreA_st hS 1 rfl rfl (by simp [Value.oneCell']) Try.sizeOf49 fun W hS => kEq_int (kIf_eq (fun h0 => by omega) (fun _ => ?_))))
          refine kLoadA_st (c := ⟨Try.prog, _, false⟩) hS 1 rfl Try.underlying49 rfl Try.sizeOf49 rfl ?_
          refine kBuildS_st (E22 V) hS [vVal r] rfl rfl (by omega) (by omega) (by simp [vVal_size]) fun y W hS => kAppRow_st (E22 V) hS 0 2 rfl rfl (by
            have : flat [vVal r] = (vVal r).cells.toList := by simp [flat]
            rw [this]; exact vVal_one r) (by simp [maxLen]; omega) (by omega) fun x' W hS => ?_
          have hS := hS.take 1
          have hS : St V [.row x' 49 3 (i + 1) (flat (rs.map vVal) ++ flat [vVal r])] W := hS
          refine kBin_add (kBin_add (kD_i ⟨⟨i + 1, at_ + m', rs ++ [r], x', ?_, by omega, by simp [hrs], by omega, by omega, fun q hq => ?_, ?_, ?_⟩, ?_⟩))
          · rw [wrap_id (by omega) (by omega), wrap_id (by omega) (by omega)]; rfl
          · rcases List.mem_append.1 hq with hq | hq
            · exact hrng q hq
            · simp at hq; subst hq; exact readV_rng hbd (readV1_some hv)
          · rw [heq, hNi, readVs1, hv]
            simp only [List.drop_drop]
            cases readVs1 (N - (i + 1)) (bs.drop (at_ + m')) with
            | none => rfl
            | some p => simp; omega
          · have e : flat ((rs ++ [r]).map vVal) = flat (rs.map vVal) ++ flat [vVal r] := by simp [flat]
            rw [e]; exact hS
          · show N - (IntKind.i64.wrap ((i : Int) + 1)).toNat < N - (i : Int).toNat; rw [wrap_id (by omega) (by omega)]; omega
        · have hS := hS.bel hBe
          refine kExt_0 (kExt_1 (kAlloc_st Try.zeroValue49 hS fun b9 W hS => kStoreA_st hS 1 rfl rfl (by simp [Value.oneCell']) Try.sizeOf49 fun W hS => kEq_int (kIf_eq (fun _ => ?_) (fun hne => absurd rfl hne))))
          refine h1 (hnone ?_) _ hS.below
          rw [heq, hNi, readVs1, hv]; rfl
      · have hi : i = N := by omega
        subst hi
        have heq : readVs1 i (bs.drop m) = some (rs, at_ - m) := by rw [heq]; simp [readVs1]
        obtain ⟨hE, hO⟩ := hsome rs _ heq
        have hrow : W.ownsRow V.heap.size 49 3 x i (flat (rs.map vVal)) := hS.get 0 rfl
        obtain ⟨xa, xc, rfl, hsl⟩ := Sl.of_owns (flatMap_vVal_size rs) hrow (by simpa using hrs)
        subst hrs
        refine kCall_i (Try.call49 _ _) (refEncode49 rs W xa xc hsl hrng (by omega) _ (fun he y W' hBe ho => ?_) (fun he W' hBe => ?_))
        · obtain ⟨hL, hNe, hEq⟩ := hO he
          have hS := hS.made hBe ho
          refine kExt_0 (kExt_1 (kNe_int (kIf_ne (fun h => absurd rfl h) (fun _ => kLen38 (kNe_int (kIf_ne (fun hne => kIf_t (h1 (hL (fun e => hne (by omega))) _ hS.below)) (fun heqn => ?_)))))))
          have ho2 : W'.ownsRow V.heap.size 5 1 y _ _ := hS.get 1 rfl
          obtain ⟨ya, yc, rfl, hyB⟩ := Bs.of_owns ho2
          refine kCv_str hyB (kCv_str (hB.keep hS.below) (kNe_str (kIf_nd (fun hne => ?_) (fun hee => ?_))))
          · exact h1 (hNe (fun e => hne (by rw [e]))) _ hS.below
          · exact h0 rs (hEq (mkS_inj (encB_256 (encE_bad he)) hbyte hee)) _ _ hS.below (hS.get 0 rfl)
        · have hS := hS.bel hBe
          exact kExt_0 (kExt_1 (kNe_int (kIf_ne (fun _ => kIf_t (h1 (hE he) _ hS.below)) (fun h => absurd h he))))
    · intro J hJ
      refine kNe_int (kIf_ne (fun h => absurd rfl h) (fun _ => kBin_gtr (kIf_d (fun hg => h1 ?_ _ (Below.refl _ _)) (fun hle => kD_i (hJ _ _ ⟨rfl, by omega⟩)))))
      simp only [decR, hr]; rw [if_neg (by omega)]
  · refine kExt3_0 (kExt3_1 (kExt3_2 (kJn_i (kNe_int (kIf_ne (fun _ => kIf_t (h1 ?_ _ (Below.refl _ _))) (fun h0 => absurd h0 (by decide)))))))
    simp only [decR, hr]
end Go.L
namespace Go.L
open Go Go.RowKit Go.Proofs
set_option linter.unusedSimpArgs false
set_option linter.unusedVariables false

theorem kEq_fn45 {X : Chain → World → Prop} {q : Bool} {w : World} {k : Value → World → Prop} {ox oy : Operand} {f : FuncId} {caps : Array Value} (h : k (.bool false) w) : kEq ⟨Try.prog, X, q⟩ w .eql 45 ox oy (.func (.func f) #[] caps) .nilFunc k :=
  ⟨kVal_pure (c := ⟨Try.prog, X, q⟩) (v := .bool false) (fun w' => by
    simp only [go_sem]
    show Sem.run Try.prog (do pure (.bool (← Op.equal 45 (.func (.func f) #[] caps) .nilFunc)) : Sem Value) w' = _
    have : (Op.equal 45 (.func (.func f) #[] caps) .nilFunc).run Try.prog w' = .ok false w' := by
      unfold Op.equal Op.maxDepth Op.equalIn
      simp [run_underlying Try.underlying45]
    simp [this]) h⟩

/-- An iterator over a row, with the places: what 'Columns' tells. -/
theorem iter50 {rows : List AV} {w : World} {b : Nat} {a : Option Addr} {cp : Nat} (hbox : w.heap[b]? = some (.cells #[.slice a rows.length cp] 22 (0, 0))) (hlen : rows.length ≤ 4611686018427387904) {J : Nat → World → Prop}
    (hJ : ∀ i W, J i W → Sl W a 3 (rows.map vVal)) : Iter Try.prog (.func (.func 50) #[] #[.pointer (some ⟨b, 0, none⟩)]) rows.length (fun i => [.int .i64 (i : Nat), (rows.map vVal).getD i undef].toArray) J w := by
  refine ⟨50, #[.pointer (some ⟨b, 0, none⟩)], rfl, Try.call50, ?_⟩
  intro l J' Z' W hB hsJ hsZ hJ' hy h0
  show Calls Try.prog 50 #[.func (.yield l) #[] #[], .pointer (some ⟨b, 0, none⟩)] W _
  refine c50 _ _ _ _ ?_
  unfold vc50
  have hbl : b < w.heap.size := (Array.getElem?_eq_some_iff.1 hbox).1
  have hcell : W.cell? ⟨b, 0, none⟩ = some (.slice a rows.length cp) := by
    rw [cell_of_row W b 0 #[.slice a rows.length cp] 22 (0, 0) (by rw [hB.block b hbl]; exact hbox)]; rfl
  refine kLdS rfl hcell (kLen22 ⟨⟨fun cs V => ∃ i : Nat, cs = [.int .i64 i] ∧ i ≤ rows.length ∧ J' i V, fun cs _ => rows.length - (match cs with | [.int _ i] => i.toNat | _ => 0), ⟨0, rfl, Nat.zero_le _, h0⟩, ?_⟩⟩)
  rintro cs ds V ⟨i, rfl, hile, hJi⟩
  dsimp only [List.getD_cons_zero]
  refine kBin_lss (kIf_d (fun e => ?_) (fun e => ?_))
  · have hil : i < rows.length := by omega
    obtain ⟨pb, po, rfl, hpb, hpr⟩ := (hJ i V (hJ' i V hJi)).elem (i := i) (v := vVal rows[i]) (by simp [hil])
    refine kIa22 hil (kLd49 hpr (kAlloc_st Try.zeroValue49 (St.start V) fun b3 V1 hS => kStoreA_st hS 0 rfl rfl (by simp [Value.oneCell']) Try.sizeOf49 fun V2 hS => kLoadA_st (c := ⟨Try.prog, _, false⟩) hS 0 rfl Try.underlying49 rfl Try.sizeOf49 rfl ?_))
    have hx : ([.int .i64 (i : Nat), (rows.map vVal).getD i undef] : List Value).toArray = #[.int .i64 (i : Nat), vVal rows[i]] := by simp [hil]
    have hyy := hy i V2 hil (hsJ i V V2 hJi hS.below)
    dsimp only at hyy
    rw [hx] at hyy
    refine kCallV_y hyy ?_
    intro en W' hen
    cases en with
    | outgrown => exact hen.elim
    | panicked ch => exact hen
    | returned v =>
      rcases hen with ⟨rfl, hj⟩ | ⟨rfl, hz⟩
      · refine kUn_not (kIf_f (kBin_add (kD_i ⟨⟨i + 1, by rw [wrap_id (by omega) (by omega)]; rfl, hil, hj⟩, ?_⟩)))
        rw [wrap_id (by omega) (by omega)]; show rows.length - ((i : Int) + 1).toNat < rows.length - (i : Int).toNat; omega
      · exact kUn_not (kIf_t (.inr hz))
  · have : i = rows.length := by omega
    subst this
    exact .inl hJi

/-- The row of bytes; none, if there is none. -/
def rowOf (bs : List Nat) : List AV := (decR bs).getD []
def errOf (bs : List Nat) : Int := if decR bs = none then 210 else 0
theorem DecodeK (fn : FuncId) (bs : List Nat) (w : World) (a : Option Addr) (n cp : Nat) (R : Ending → World → Prop)
    (hD : (∀ rs, decR bs = some rs → ∀ x W, Below w.heap.size w W → W.ownsRow w.heap.size 49 3 x rs.length (flat (rs.map vVal)) → R (.returned (.tuple #[x, .int .i64 0])) W) →
      (decR bs = none → ∀ W, Below w.heap.size w W → R (.returned (.tuple #[.slice none 0 0, .int .i64 210])) W) → Calls Try.prog fn #[.slice a n cp] w R)
    (h : ∀ x W, Below w.heap.size w W → W.ownsRow w.heap.size 49 3 x (rowOf bs).length (flat ((rowOf bs).map vVal)) → R (.returned (.tuple #[x, .int .i64 (errOf bs)])) W) : Calls Try.prog fn #[.slice a n cp] w R := by
  refine hD (fun rs hd x W hB ho => ?_) (fun hd W hB => ?_)
  · have e1 : rowOf bs = rs := by simp [rowOf, hd]
    have e2 : errOf bs = 0 := by simp [errOf, hd]
    have := h x W hB (by rw [e1]; exact ho)
    rwa [e2] at this
  · have e1 : rowOf bs = [] := by simp [rowOf, hd]
    have e2 : errOf bs = 210 := by simp [errOf, hd]
    have := h (.slice none 0 0) W hB (by rw [e1]; exact World.ownsRow_nil _ _ _ _)
    rwa [e2] at this

theorem Columns21 (bs : List Nat) (w : World) (a : Option Addr) (n cp : Nat) (hB : Bs w a n cp bs) (hbyte : ∀ b ∈ bs, b < 256) (hn : cp ≤ 9223372036854775807) (R : Ending → World → Prop)
    (h : ∀ b x W, St w [.row x 49 3 (rowOf bs).length (flat ((rowOf bs).map vVal)), .bx b 22 #[x]] W → R (.returned (.func (.func 50) #[] #[.pointer (some ⟨b, 0, none⟩)])) W) : Calls Try.prog 21 #[.slice a n cp] w R := by
  refine c21 _ _ _ _ _ ?_
  unfold vc21
  refine kCall_i (Try.call19 _ _) (DecodeK 19 bs w a n cp _ (fun h0 h1 => Decode19 bs w a n cp hB hbyte hn _ h0 h1) fun x W hBe ho => ?_)
  have hS := (St.start w).made hBe ho
  refine kExt_0 (kExt_1 (kAlloc_st Try.zeroValue22 hS fun b W hS => kSt hS 1 rfl (by simp [Value.cells]) (own_cells ho).1 (own_cells ho).2 rfl fun W hS => ?_))
  exact h b x W hS

/-- The marks of loops that are behind. -/
theorem Lv_marks {rs : List RV} {R : Ending → World → Prop} {u : FrameMode} (hu : u ≠ .run) {w0 : World} {b4 : Nat} {t4 : TypeId} {c4 : Array Value} : ∀ (ds : List Nat) (W : World), ds.Nodup → (∀ D ∈ ds, w0.heap.size ≤ D ∧ W.heap[D]? = some (.deferred (some []))) → Below w0.heap.size w0 W → W.heap[b4]? = some (.cells c4 t4 (0, 0)) →
    (∀ V, Below w0.heap.size w0 V → V.heap[b4]? = some (.cells c4 t4 (0, 0)) → Lv Try.prog rs R [] u V) → Lv Try.prog rs R (ds.map markOf) u W
  | [], W, _, _, hB, h4, h => h W hB h4
  | D :: ds, W, hnd, hd, hB, h4, h => by
    have hD := hd D (List.mem_cons_self ..)
    have hlt := (Array.getElem?_eq_some_iff.1 hD.2).1
    obtain ⟨hn1, hn2⟩ := List.nodup_cons.1 hnd
    have hne4 : D ≠ b4 := fun e => by rw [e, h4] at hD; cases hD.2
    have key : Lv Try.prog rs R (ds.map markOf) u (W.putObj D (.deferred none)) := by
      refine Lv_marks hu ds _ hn2 (fun D' hD' => ⟨(hd D' (List.mem_cons_of_mem _ hD')).1, ?_⟩) (Below.turn hB (grownBy_putObj' W D _) (fun r hr => by cases hr; exact ⟨hD.1, _, hD.2, rfl⟩)) ?_ h
      · have : D ≠ D' := fun e => hn1 (e ▸ hD')
        rw [World.putObj_heap_other (by omega)]; exact (hd D' (List.mem_cons_of_mem _ hD')).2
      · rw [World.putObj_heap_other (by omega)]; exact h4
    cases u with
    | run => exact absurd rfl hu
    | returning => exact ⟨hD.2, key⟩
    | panicking ch => exact ⟨hD.2, key⟩
end Go.L
namespace Go.L
open Go Go.RowKit Go.Proofs
set_option linter.unusedSimpArgs false
set_option linter.unusedVariables false

theorem Own.rebase {a b : Nat} {W : World} {o : Own} (h : o.holds a W) (hb : b ≤ a) : o.holds b W := by
  cases o with
  | bx g t cs => exact ⟨Nat.le_trans hb h.1, h.2⟩
  | row x e sz n xs => exact ownsRow_rebase h hb
  | ob g o => exact ⟨Nat.le_trans hb h.1, h.2⟩
/-- What a call has made comes under watch, all of it. -/
theorem St.join {w0 W W' : World} {L M : List Own} (h : St w0 L W) (hm : St W M W') : St w0 (L ++ M) W' := by
  have h' := h.bel hm.below
  refine ⟨h'.below, fun o ho => ?_, fun i j a b ha hb hij => ?_⟩
  · rcases List.mem_append.1 ho with ho | ho
    · exact h'.all o ho
    · exact Own.rebase (hm.all o ho) h.size
  · have cross : ∀ (a b : Own), a ∈ L → b ∈ M → (a.blk = none ∨ a.blk ≠ b.blk) ∧ (b.blk = none ∨ b.blk ≠ a.blk) := fun a b ha hb => by
      cases hab : a.blk with
      | none =>
        refine ⟨.inl rfl, ?_⟩
        cases hbb : b.blk with
        | none => exact .inl rfl
        | some k => exact .inr (by simp)
      | some k =>
        have h1 := (Own.lt (h.all a ha) k hab).2
        cases hbb : b.blk with
        | none => exact ⟨.inr (by simp), .inl rfl⟩
        | some k2 =>
          have h2 := (Own.lt (hm.all b hb) k2 hbb).1
          exact ⟨.inr (by simp; omega), .inr (by simp; omega)⟩
    have look : ∀ (i : Nat) (a : Own), (L ++ M)[i]? = some a → (i < L.length ∧ L[i]? = some a) ∨ (L.length ≤ i ∧ M[i - L.length]? = some a) := fun i a ha => by
      by_cases hi : i < L.length
      · rw [List.getElem?_append_left hi] at ha; exact .inl ⟨hi, ha⟩
      · rw [List.getElem?_append_right (by omega)] at ha; exact .inr ⟨by omega, ha⟩
    rcases look i a ha with ⟨hi, ha⟩ | ⟨hi, ha⟩ <;> rcases look j b hb with ⟨hj, hb⟩ | ⟨hj, hb⟩
    · exact h.apart i j a b ha hb hij
    · exact (cross a b (List.mem_of_getElem? ha) (List.mem_of_getElem? hb)).1
    · exact (cross b a (List.mem_of_getElem? hb) (List.mem_of_getElem? ha)).2
    · exact hm.apart _ _ a b ha hb (by omega)
theorem kJnD_inv {f : (List Value → List Deferred → World → Prop) → Prop} {a : List Value → List Deferred → World → Prop} (I : List Value → List Deferred → World → Prop) (ha : ∀ cs d W, I cs d W → a cs d W) (hf : ∀ J, (∀ cs d W, I cs d W → J cs d W) → f J) : kJnD f a := ⟨hf _ ha⟩


theorem St.pw {w0 W : World} {L : List Own} (h : St w0 L W) : L.Pairwise (fun a b => a.blk = none ∨ a.blk ≠ b.blk) := by
  rw [List.pairwise_iff_getElem]
  intro i j hi hj hij
  exact h.apart i j _ _ (List.getElem?_eq_getElem hi) (List.getElem?_eq_getElem hj) (by omega)
theorem St.ofPw {w0 W : World} {L : List Own} (hb : Below w0.heap.size w0 W) (ha : ∀ o ∈ L, o.holds w0.heap.size W) (hp : L.Pairwise (fun a b => a.blk = none ∨ a.blk ≠ b.blk)) : St w0 L W := by
  have hsym : ∀ a b : Own, (a.blk = none ∨ a.blk ≠ b.blk) → (b.blk = none ∨ b.blk ≠ a.blk) := fun a b h => by
    rcases h with h | h
    · cases hbb : b.blk with
      | none => exact .inl rfl
      | some k => exact .inr (by rw [h]; simp)
    · exact .inr (Ne.symm h)
  refine ⟨hb, ha, fun i j a b hia hjb hij => ?_⟩
  rw [List.pairwise_iff_getElem] at hp
  obtain ⟨hi, rfl⟩ := List.getElem?_eq_some_iff.1 hia
  obtain ⟨hj, rfl⟩ := List.getElem?_eq_some_iff.1 hjb
  rcases Nat.lt_or_ge i j with h | h
  · exact hp i j hi hj h
  · exact hsym _ _ (hp j i hj hi (by omega))
theorem St.perm {w0 W : World} {L L' : List Own} (h : St w0 L W) (hp : L.Perm L') : St w0 L' W :=
  St.ofPw h.below (fun o ho => h.all o (hp.mem_iff.2 ho)) (h.pw.perm hp (fun {a b} h => by
    rcases h with h | h
    · cases hbb : b.blk with
      | none => exact .inl rfl
      | some k => exact .inr (by rw [h]; simp)
    · exact .inr (Ne.symm h)))
theorem St.sub {w0 W : World} {L L' : List Own} (h : St w0 L W) (hs : L'.Sublist L) : St w0 L' W := St.ofPw h.below (fun o ho => h.all o (hs.subset ho)) (h.pw.sublist hs)
/-- The last thing goes to place k. -/
theorem St.ins {w0 W : World} {L : List Own} {o : Own} (h : St w0 (L ++ [o]) W) (k : Nat) : St w0 (L.take k ++ o :: L.drop k) W := by
  refine h.perm ?_
  have e : L ++ [o] = L.take k ++ (L.drop k ++ [o]) := by rw [← List.append_assoc, List.take_append_drop]
  rw [e]
  exact List.Perm.append_left _ (List.perm_append_comm (l₁ := L.drop k) (l₂ := [o]))
theorem St.del {w0 W : World} {L : List Own} (h : St w0 L W) (k : Nat) : St w0 (L.take k ++ L.drop (k + 1)) W := by
  refine h.sub ?_
  conv => rhs; rw [← List.take_append_drop k L]
  exact List.Sublist.append (List.Sublist.refl _) (by rw [← List.drop_drop]; exact List.drop_sublist _ _)
theorem St.turn2 {w0 : World} {L : List Own} {W W' : World} {row : Option Nat} {B : Nat} (h : St w0 L W) (hB : w0.heap.size ≤ B) (hcl : ∀ o ∈ L, o.cl ∨ ∀ b, o.blk = some b → b < B) (hg : W.grownBy W' row) (hr : ∀ r, row = some r → B ≤ r ∧ ∃ o : Obj, W.heap[r]? = some o ∧ o.isCells = false) : St w0 L W' := by
  refine ⟨h.below.grown hg h.size fun k hk => Nat.le_trans hB (hr k hk).1, fun o ho => Own.kept (h.all o ho) hg ?_, h.apart⟩
  cases hb : o.blk with
  | none => exact .inl rfl
  | some b =>
    right
    intro he
    obtain ⟨h1, o', ho', hn⟩ := hr b he.symm
    rcases hcl o ho with hc | hc
    · obtain ⟨c, t, f, hc⟩ := Own.cl_blk (h.all o ho) hc b hb
      rw [hc] at ho'
      cases ho'
      simp [Obj.isCells] at hn
    · have := hc b hb; omega

def marks (ds : List Nat) : List Own := ds.map fun D => .ob D (.deferred (some []))
theorem marks_blk {ds : List Nat} {o : Own} (h : o ∈ marks ds) : ∃ D ∈ ds, o = .ob D (.deferred (some [])) := by
  obtain ⟨D, hD, rfl⟩ := List.mem_map.1 h
  exact ⟨D, hD, rfl⟩
end Go.L
namespace Go.L
open Go Go.RowKit Go.Proofs
set_option linter.unusedSimpArgs false
set_option linter.unusedVariables false

section
variable (b3 b4 b7 b29 : Nat) (many : Int) (x1 x2 x3 : Value) (rows : List AV)
/-- What the law has made ahead of its loop. -/
def rrB : List Own := [.bx b3 3 #[.int .i64 many], .bx b4 4 #[.bool false], .row x1 49 3 rows.length (flat (rows.map vVal)), .row x2 49 3 rows.length (flat (rows.map vVal)), .bx b7 22 #[x2], .row x3 49 3 rows.length (flat (rows.map vVal)), .bx b29 22 #[x3]]
def rrN (t : Int) : Int := if t = 0 then (if (if many > 1 then many else 1) < (rows.length : Int) then (if many > 1 then many else 1) else rows.length) else rows.length
end
theorem rrB_cl {b3 b4 b7 b29 : Nat} {many : Int} {x1 x2 x3 : Value} {rows : List AV} : ∀ o ∈ rrB b3 b4 b7 b29 many x1 x2 x3 rows, o.cl := by
  intro o ho
  simp only [rrB, List.mem_cons, List.not_mem_nil, or_false] at ho
  rcases ho with rfl | rfl | rfl | rfl | rfl | rfl | rfl <;> trivial

theorem rr_turn {w0 W W' : World} {X : List Own} {ds : List Nat} {row : Option Nat} {B : Nat} (h : St w0 (X ++ marks ds) W) (hX : ∀ o ∈ X, o.cl) (hd : ∀ D ∈ ds, D < B) (hB : w0.heap.size ≤ B) (hg : W.grownBy W' row) (hr : ∀ r, row = some r → B ≤ r ∧ ∃ o : Obj, W.heap[r]? = some o ∧ o.isCells = false) : St w0 (X ++ marks ds) W' := by
  refine h.turn2 hB (fun o ho => ?_) hg hr
  rcases List.mem_append.1 ho with ho | ho
  · exact .inl (hX o ho)
  · obtain ⟨D, hD, rfl⟩ := marks_blk ho
    exact .inr fun b hb => by cases hb; exact hd D hD
theorem rr_adopt {w0 W : World} {X : List Own} {ds : List Nat} {l : Nat} {o : Obj} (h : St w0 (X ++ marks ds) W) (hX : ∀ p ∈ X, p.cl) (hd : ∀ D ∈ ds, D < l) (hl : w0.heap.size ≤ l) (hlo : W.heap[l]? = some o) (hn : o.isCells = false) : ∀ p ∈ X ++ marks ds, p.blk = none ∨ p.blk ≠ (Own.ob l o).blk := by
  intro p hp
  cases hb : p.blk with
  | none => exact .inl rfl
  | some b =>
    right; intro he
    rcases List.mem_append.1 hp with hp' | hp'
    · obtain ⟨c, t, f, hc2⟩ := Own.cl_blk (h.all p hp) (hX p hp') b hb
      cases he; rw [hlo] at hc2; cases hc2; simp [Obj.isCells] at hn
    · obtain ⟨D, hD, rfl⟩ := marks_blk hp'
      cases hb; cases he; have := hd _ hD; omega

theorem RowReads5 (bs : List Nat) (many : Int) (w : World) (a : Option Addr) (n cp : Nat) (hB : Bs w a n cp bs) (hbyte : ∀ b ∈ bs, b < 256) (hn : cp ≤ 9223372036854775807) (R : Ending → World → Prop)
    (h : ∀ W, Below w.heap.size w W → R (.returned (.bool true)) W) : Calls Try.prog 5 #[.slice a n cp, .int .i64 many] w R := by
  refine c5 _ _ _ _ _ _ ?_
  unfold vc5
  refine kBox_st (St.start w) fun b3 W hS => kAlloc_st Try.zeroValue4 hS fun b4 W hS => kLen38 (kBin_gtr (kIf_d (fun hbig => ?_) (fun hsm => ?_)))
  · refine kCall_i (Try.call11 _ _) (works11 W _ fun W' hBe => ?_)
    have hS := hS.bel hBe
    exact kSt hS 1 rfl (by simp [Value.cells]) rfl rfl rfl fun W hS => RetK_cell rfl (hS.cell 1 rfl 0 rfl) (h _ hS.below)
  obtain ⟨rows, hrows⟩ : ∃ rows, rows = rowOf bs := ⟨_, rfl⟩
  have hlen32 : rows.length ≤ 32 := by
    rw [hrows]; unfold rowOf
    cases hd : decR bs with
    | none => simp
    | some rs =>
      simp only [Option.getD_some]
      simp only [decR] at hd
      cases hr : readN bs with
      | none => rw [hr] at hd; cases hd
      | some p =>
        obtain ⟨x, m⟩ := p
        rw [hr] at hd
        simp only [] at hd
        split at hd
        · cases hv : readVs x (bs.drop m) with
          | none => rw [hv] at hd; cases hd
          | some q =>
            obtain ⟨rs', t⟩ := q
            rw [hv] at hd
            simp only [] at hd
            split at hd
            · rename_i he; cases hd; exact (enc_bound he.1).1
            · cases hd
        · cases hd
  have hS : St w [.bx b3 3 #[.int .i64 many], .bx b4 4 #[.bool false]] W := hS
  refine kCall_i (Try.call19 _ _) (DecodeK 19 bs W a n cp _ (fun h0 h1 => Decode19 bs W a n cp (hB.keep hS.below) hbyte hn _ h0 h1) fun x1 W hBe ho => ?_)
  rw [← hrows] at ho
  have hS := hS.made hBe ho
  refine kExt_0 (kExt_1 (kCall_i (Try.call20 _ _) (DecodeK 20 bs W a n cp _ (fun h0 h1 => refDecode20 bs W a n cp (hB.keep hS.below) hbyte hn _ h0 h1) fun x2 W hBe ho => ?_)))
  rw [← hrows] at ho
  have hS := hS.made hBe ho
  refine kExt_0 (kExt_1 (kAlloc_st Try.zeroValue22 hS fun b7 W hS => kSt hS 4 rfl (by simp [Value.cells]) (own_cells ho).1 (own_cells ho).2 rfl fun W hS => ?_))
  refine kCall_i (Try.call21 _ _) (Columns21 bs W a n cp (hB.keep hS.below) hbyte hn _ fun b29 x3 W hM => ?_)
  rw [← hrows] at hM
  have hS : St w (rrB b3 b4 b7 b29 many x1 x2 x3 rows) W := hS.join hM
  have hvs : ∀ v ∈ rows.map vVal, v.cells.size = 3 := flatMap_vVal_size rows
  obtain ⟨xa1, xc1, rfl, hs1⟩ := Sl.of_owns hvs (show W.ownsRow w.heap.size 49 3 x1 rows.length (flat (rows.map vVal)) from hS.get 2 rfl) (by simp)
  obtain ⟨xa2, xc2, rfl, hs2⟩ := Sl.of_owns hvs (show W.ownsRow w.heap.size 49 3 x2 rows.length (flat (rows.map vVal)) from hS.get 3 rfl) (by simp)
  obtain ⟨xa3, xc3, rfl, hs3⟩ := Sl.of_owns hvs (show W.ownsRow w.heap.size 49 3 x3 rows.length (flat (rows.map vVal)) from hS.get 5 rfl) (by simp)
  obtain ⟨L, hL⟩ : ∃ L, L = rrB b3 b4 b7 b29 many (.slice xa1 rows.length xc1) (.slice xa2 rows.length xc2) (.slice xa3 rows.length xc3) rows := ⟨_, rfl⟩
  have hLcl : ∀ o ∈ L, o.cl := by rw [hL]; exact rrB_cl
  refine kJn_inv (fun cs V => St w L V) ?_ ?_
  rotate_left
  · intro J hJ
    refine kLd hS 4 rfl rfl rfl (kCall_i (Try.call14 _ _) (same14 rows rows W xa1 xa2 xc1 xc2 hs1 hs2 (by omega) (by omega) _ fun W hBe => ?_))
    have hS := hS.bel hBe
    rw [decide_eq_true rfl]
    refine kUn_not (kIf_f (kCall_i (Try.call15 _ _) (num15 _ _ _ (kNe_int (kIf_ne (fun hne => absurd rfl hne) (fun _ => kEq_fn45 (kIf_f (kD_i (hJ _ _ (by rw [hL]; exact hS))))))))))
  rintro cs W hS ds0
  have hB7 : L.length = 7 := by rw [hL]; rfl
  refine kAlloc_st Try.zeroValue3 hS fun b10 W hS => ?_
  subst hL
  refine kSt hS 7 rfl (by simp [Value.cells]) rfl rfl rfl fun W hS => ?_
  refine ⟨⟨fun cs d W => ∃ (t : Nat) (b10 : Nat) (ds : List Nat), cs = [.pointer (some ⟨b10, 0, none⟩)] ∧ d = ds.map markOf ∧ ds.Nodup ∧ (∀ D ∈ ds, w.heap.size ≤ D) ∧ ds.length = t ∧ t ≤ 2 ∧ St w (rrB b3 b4 b7 b29 many (.slice xa1 rows.length xc1) (.slice xa2 rows.length xc2) (.slice xa3 rows.length xc3) rows ++ .bx b10 3 #[.int .i64 t] :: marks ds) W, fun _ d _ => 2 - d.length, ⟨0, b10, [], rfl, rfl, by simp, by simp, rfl, by omega, hS⟩, ?_⟩⟩
  rintro cs ds' d W ⟨t, b10, ds, rfl, rfl, hnd, hge, hdl, ht2, hS⟩
  dsimp only [List.getD_cons_zero]
  obtain ⟨L, hL⟩ : ∃ L, L = rrB b3 b4 b7 b29 many (.slice xa1 rows.length xc1) (.slice xa2 rows.length xc2) (.slice xa3 rows.length xc3) rows := ⟨_, rfl⟩
  have memM : ∀ {k : Nat} {Y : List Own} {V : World}, St w Y V → Y.drop k = marks ds → ∀ D ∈ ds, (Own.ob D (.deferred (some []))).holds w.heap.size V := fun {k Y V} hV he D hD =>
    hV.all _ (List.mem_of_mem_drop (i := k) (by rw [he]; exact List.mem_map.2 ⟨D, hD, rfl⟩))
  refine kLd hS 7 rfl rfl rfl (kBin_lss (kIf_d (fun hlt => ?_) (fun hge2 => ?_)))
  rotate_left
  · refine kCall_i (Try.call11 _ _) (works11 W _ fun W' hBe => ?_)
    have hS := hS.bel hBe
    refine kSt hS 1 rfl (by simp [Value.cells]) rfl rfl rfl fun W hS => ?_
    have h4 := hS.get 1 rfl
    exact Lv_marks (by simp) ds W hnd (fun D hD => ⟨hge D hD, (memM (k := 8) hS rfl D hD).2⟩) hS.below h4.2 (fun V hB h4 => RetK_cell rfl (by rw [cell_of_row V b4 0 _ 4 (0, 0) h4]; rfl) (h V hB))
  have ht : t = 0 ∨ t = 1 := by omega
  refine kJnD_inv (fun _ d V => ∃ D, d = (D :: ds).map markOf ∧ (D :: ds).Nodup ∧ w.heap.size ≤ D ∧ St w (rrB b3 b4 b7 b29 many (.slice xa1 rows.length xc1) (.slice xa2 rows.length xc2) (.slice xa3 rows.length xc3) rows ++ .bx b10 3 #[.int .i64 t] :: marks (D :: ds)) V) ?_ ?_
  · rintro cs d V ⟨D, rfl, hnd', hgeD, hS⟩ ds2
    refine kLd hS 7 rfl rfl rfl (kAlloc_st Try.zeroValue3 hS fun b10' V hS => ?_)
    have hS := hS.ins 8
    refine kSt hS 8 rfl (by simp [Value.cells]) rfl rfl rfl fun V hS => kLd hS 8 rfl rfl rfl (kBin_add (kSt hS 8 rfl (by simp [Value.cells]) rfl rfl rfl fun V hS => ?_))
    rw [wrap_id (by omega) (by omega)] at hS
    refine ⟨⟨t + 1, b10', D :: ds, rfl, rfl, hnd', ?_, by simp [hdl], by omega, hS.del 7⟩, by simp; omega⟩
    intro D' hD'
    rcases List.mem_cons.1 hD' with rfl | hD'
    · exact hgeD
    · exact hge D' hD'
  intro J1 hJ1
  refine kAlloc_st Try.zeroValue3 hS fun b11 W hS => ?_
  have hS := hS.ins 8
  refine kSt hS 8 rfl (by simp [Value.cells]) rfl rfl rfl fun W hS => ?_
  have hS : St w (rrB b3 b4 b7 b29 many (.slice xa1 rows.length xc1) (.slice xa2 rows.length xc2) (.slice xa3 rows.length xc3) rows ++ .bx b10 3 #[.int .i64 t] :: .bx b11 3 #[.int .i64 0] :: marks ds) W := hS
  refine kJnD_inv (fun _ d V => ∃ D, d = (D :: ds).map markOf ∧ (D :: ds).Nodup ∧ w.heap.size ≤ D ∧ St w (rrB b3 b4 b7 b29 many (.slice xa1 rows.length xc1) (.slice xa2 rows.length xc2) (.slice xa3 rows.length xc3) rows ++ .bx b10 3 #[.int .i64 t] :: .bx b11 3 #[.int .i64 (rrN many rows t)] :: marks (D :: ds)) V) ?_ ?_
  · rintro cs d V ⟨D, rfl, hnd', hgeD, hS⟩ ds2
    have fin : J1 [] ((D :: ds).map markOf) V := hJ1 _ _ _ ⟨D, rfl, hnd', hgeD, hS.del 8⟩
    rcases ht with rfl | rfl
    · refine kLd hS 7 rfl rfl rfl (kEq_int (kIf_eq (fun _ => ?_) (fun hne => absurd rfl hne)))
      refine kLd hS 8 rfl rfl rfl (kLd hS 4 rfl rfl rfl (kLen22 (kLd hS 0 rfl rfl rfl (kMax2 (kMin2 (kNe_int (kIf_ne (fun hne => ?_) (fun _ => ?_))))))))
      · exact absurd (by simp [rrN]) hne
      · exact kLd hS 7 rfl rfl rfl (kEq_int (kIf_eq (fun h0 => by simp at h0) (fun _ => kIf_f fin)))
    · refine kLd hS 7 rfl rfl rfl (kEq_int (kIf_eq (fun h0 => by simp at h0) (fun _ => ?_)))
      refine kLd hS 7 rfl rfl rfl (kEq_int (kIf_eq (fun _ => ?_) (fun hne => absurd rfl hne)))
      refine kLd hS 8 rfl rfl rfl (kLd hS 4 rfl rfl rfl (kLen22 (kNe_int (kIf_ne (fun hne => ?_) (fun _ => fin)))))
      exact absurd (by simp [rrN]) hne
  intro J2 hJ2
  have hbox : W.heap[b29]? = some (.cells #[.slice xa3 rows.length xc3] 22 (0, 0)) := (hS.get 6 rfl).2
  have hdlt : ∀ D ∈ ds, D < W.heap.size := fun D hD => (Own.lt (memM (k := 9) hS rfl D hD) D rfl).2
  have hsz := hS.size
  have hXcl : ∀ c : Int, ∀ o ∈ rrB b3 b4 b7 b29 many (.slice xa1 rows.length xc1) (.slice xa2 rows.length xc2) (.slice xa3 rows.length xc3) rows ++ [.bx b10 3 #[.int .i64 t], .bx b11 3 #[.int .i64 c]], o.cl := by
    intro c o ho
    rcases List.mem_append.1 ho with ho | ho
    · exact rrB_cl o ho
    · simp at ho; rcases ho with rfl | rfl <;> trivial
  have asX : ∀ {c : Int} {V : World}, St w (rrB b3 b4 b7 b29 many (.slice xa1 rows.length xc1) (.slice xa2 rows.length xc2) (.slice xa3 rows.length xc3) rows ++ .bx b10 3 #[.int .i64 t] :: .bx b11 3 #[.int .i64 c] :: marks ds) V →
      St w ((rrB b3 b4 b7 b29 many (.slice xa1 rows.length xc1) (.slice xa2 rows.length xc2) (.slice xa3 rows.length xc3) rows ++ [.bx b10 3 #[.int .i64 t], .bx b11 3 #[.int .i64 c]]) ++ marks ds) V := fun hV => hV
  -- a mark more
  have more : ∀ {c : Int} {V : World} {D : Nat}, W.heap.size ≤ D → V.heap[D]? = some (.deferred (some [])) → St w (rrB b3 b4 b7 b29 many (.slice xa1 rows.length xc1) (.slice xa2 rows.length xc2) (.slice xa3 rows.length xc3) rows ++ .bx b10 3 #[.int .i64 t] :: .bx b11 3 #[.int .i64 c] :: marks ds) V →
      (D :: ds).Nodup ∧ w.heap.size ≤ D ∧ St w (rrB b3 b4 b7 b29 many (.slice xa1 rows.length xc1) (.slice xa2 rows.length xc2) (.slice xa3 rows.length xc3) rows ++ .bx b10 3 #[.int .i64 t] :: .bx b11 3 #[.int .i64 c] :: marks (D :: ds)) V := by
    intro c V D hD hdf hV
    have hlt : ∀ D' ∈ ds, D' < D := fun D' h' => Nat.lt_of_lt_of_le (hdlt D' h') hD
    refine ⟨List.nodup_cons.2 ⟨fun hm => Nat.lt_irrefl _ (hlt D hm), hnd⟩, Nat.le_trans hsz hD, ?_⟩
    exact (St.adopt (asX hV) (o := .ob D (.deferred (some []))) ⟨Nat.le_trans hsz hD, hdf⟩ (rr_adopt (asX hV) (hXcl c) hlt (Nat.le_trans hsz hD) hdf rfl)).ins 9
  refine ⟨rfl, rows.length, fun i => [.int .i64 (i : Nat), (rows.map vVal).getD i undef],
    fun i V => St w (rrB b3 b4 b7 b29 many (.slice xa1 rows.length xc1) (.slice xa2 rows.length xc2) (.slice xa3 rows.length xc3) rows ++ .bx b10 3 #[.int .i64 t] :: .bx b11 3 #[.int .i64 (i : Nat)] :: marks ds) V ∧ (t = 0 → i = 0 ∨ (i : Int) < many),
    fun ex V => ex = .exit 2 ∧ St w (rrB b3 b4 b7 b29 many (.slice xa1 rows.length xc1) (.slice xa2 rows.length xc2) (.slice xa3 rows.length xc3) rows ++ .bx b10 3 #[.int .i64 t] :: .bx b11 3 #[.int .i64 (rrN many rows t)] :: marks ds) V,
    ?_, ?_, fun _ => rfl, ⟨hS, fun _ => .inl rfl⟩, ?_, iter50 hbox (by omega) (fun i V hV => hV.1.sl 5 rfl hvs (by simp)), ?_, ?_, ?_, ?_⟩
  · rintro i _ V V' row ⟨hV, hc⟩ hg hr
    exact ⟨rr_turn (asX hV) (hXcl _) hdlt hsz hg hr, hc⟩
  · rintro ex _ V V' row ⟨he, hV⟩ hg hr
    exact ⟨he, rr_turn (asX hV) (hXcl _) hdlt hsz hg hr⟩
  · rintro i l D lo V hi hD hl hlD hlo hdf ⟨hV, hcond⟩
    have hltl : ∀ D' ∈ ds, D' < l := fun D' h' => Nat.lt_of_lt_of_le (hdlt D' h') hl
    have hltD : ∀ D' ∈ ds, D' < D := fun D' h' => Nat.lt_of_lt_of_le (hdlt D' h') hD
    have hx : ([.int .i64 (i : Nat), (rows.map vVal).getD i undef] : List Value) = [.int .i64 (i : Nat), vVal rows[i]] := by simp [hi]
    dsimp only
    rw [hx]
    have c1 := rr_adopt (asX hV) (hXcl i) hltl (Nat.le_trans hsz hl) hlo rfl
    have c2 := rr_adopt (asX hV) (hXcl i) hltD (Nat.le_trans hsz hD) hdf rfl
    have hV2 := (St.adopt (asX hV) (o := .ob l (.loop lo)) ⟨Nat.le_trans hsz hl, hlo⟩ c1).ins 9
    have hV3 := (hV2.adopt (o := .ob D (.deferred (some []))) ⟨Nat.le_trans hsz hD, hdf⟩ (fun p hp => by
      rcases List.mem_append.1 hp with hp | hp
      · exact c2 p (List.mem_of_mem_take hp)
      · rcases List.mem_cons.1 hp with rfl | hp
        · right; intro he; cases he; exact hlD rfl
        · exact c2 p (List.mem_of_mem_drop hp))).ins 10
    refine kAlloc_st Try.zeroValue49 hV3 fun b13 V1 hS1 => ?_
    have hS1 := hS1.ins 11
    refine kStoreA_st hS1 11 rfl rfl (by simp [Value.oneCell']) Try.sizeOf49 fun V2 hS2 => ?_
    refine ⟨(hS2.get 9 rfl).2.trans hlo.symm, (hS2.get 10 rfl).2.trans hdf.symm, fun lo2 => ?_⟩
    have hl2 := hS2.get 9 rfl
    have hS3 := (hS2.set (W' := V2.putObj l (.loop lo2)) 9 (o' := .ob l (.loop lo2)) rfl (grownBy_putObj' V2 l _) ⟨hl2.1, World.putObj_heap_same (Array.getElem?_eq_some_iff.1 hl2.2).1⟩ (.inl rfl))
    generalize V2.putObj l (.loop lo2) = V3 at hS3 ⊢
    have hS3 : St w (rrB b3 b4 b7 b29 many (.slice xa1 rows.length xc1) (.slice xa2 rows.length xc2) (.slice xa3 rows.length xc3) rows ++ .bx b10 3 #[.int .i64 t] :: .bx b11 3 #[.int .i64 (i : Nat)] :: .ob l (.loop lo2) :: .ob D (.deferred (some [])) :: .bx b13 49 (vVal rows[i]).cells :: marks ds) V3 := hS3
    refine kJn_inv (fun cs V => St w (rrB b3 b4 b7 b29 many (.slice xa1 rows.length xc1) (.slice xa2 rows.length xc2) (.slice xa3 rows.length xc3) rows ++ .bx b10 3 #[.int .i64 t] :: .bx b11 3 #[.int .i64 (i : Nat)] :: .ob l (.loop lo2) :: .ob D (.deferred (some [])) :: .bx b13 49 (vVal rows[i]).cells :: marks ds) V) ?_ ?_
    · rintro cs V hS ds3
      refine kLd hS 8 rfl rfl rfl (kBin_add (kSt hS 8 rfl (by simp [Value.cells]) rfl rfl rfl fun V hS => ?_))
      rw [wrap_id (by omega) (by omega)] at hS
      have hS : St w (rrB b3 b4 b7 b29 many (.slice xa1 rows.length xc1) (.slice xa2 rows.length xc2) (.slice xa3 rows.length xc3) rows ++ .bx b10 3 #[.int .i64 t] :: .bx b11 3 #[.int .i64 ((i + 1 : Nat) : Int)] :: .ob l (.loop lo2) :: .ob D (.deferred (some [])) :: .bx b13 49 (vVal rows[i]).cells :: marks ds) V := hS
      have hS9 := ((hS.del 11).del 10).del 9
      have norm : (t = 0 → (((i + 1 : Nat) : Int) < many)) → St w (rrB b3 b4 b7 b29 many (.slice xa1 rows.length xc1) (.slice xa2 rows.length xc2) (.slice xa3 rows.length xc3) rows ++ .bx b10 3 #[.int .i64 t] :: .bx b11 3 #[.int .i64 ((i + 1 : Nat) : Int)] :: marks ds) V ∧ (t = 0 → (i + 1) = 0 ∨ ((i + 1 : Nat) : Int) < many) := fun hc => ⟨hS9, fun h0 => .inr (hc h0)⟩
      refine kLd hS 7 rfl rfl rfl (kEq_int (kIf_eq (fun h0 => ?_) (fun h0 => ?_)))
      · have h0 : t = 0 := by omega
        refine kLd hS 8 rfl rfl rfl (kLd hS 0 rfl rfl rfl (kBin_geq (kIf_d (fun hg => ?_) (fun hl => ?_))))
        · refine ⟨rfl, (hS.get 9 rfl).2, (hS.get 10 rfl).2.trans hdf.symm, rfl, ?_⟩
          have e : rrN many rows t = ((i + 1 : Nat) : Int) := by
            have := hcond h0
            subst h0
            simp only [rrN]
            rw [if_pos (by simp)]
            repeat' split
            all_goals omega
          rw [e]; exact hS9
        · exact ⟨rfl, (hS.get 9 rfl).2, (hS.get 10 rfl).2.trans hdf.symm, norm fun _ => by omega⟩
      · exact kIf_f ⟨rfl, (hS.get 9 rfl).2, (hS.get 10 rfl).2.trans hdf.symm, norm fun h1 => by omega⟩
    · intro J3 hJ3
      obtain ⟨pb, po, he, hpb, hpr⟩ := (hS3.sl 3 rfl hvs (by simp)).elem (i := i) (v := vVal rows[i]) (by simp [hi])
      subst he
      refine kDrawn_i (kLd hS3 8 rfl rfl rfl (kNe_int (kIf_ne (fun hne => absurd rfl hne) (fun _ => kLd hS3 8 rfl rfl rfl (kLd hS3 4 rfl rfl rfl (kLen22 (kBin_geq (kIf_d (fun hg => by omega) (fun _ => ?_)))))))))
      refine kLoadA_st (c := ⟨Try.prog, _, true⟩) hS3 11 rfl Try.underlying49 rfl Try.sizeOf49 rfl (kLd hS3 4 rfl rfl rfl (kLd hS3 8 rfl rfl rfl (kIa22 hi (kLd49 hpr (kNe_49 (a := rows[i]) (b := rows[i]) (kDrew_st hS3 fun V hS => kIf_nd (fun hne => absurd rfl hne) (fun _ => kD_i (hJ3 _ _ hS))))))))
  · rintro D V hD hdf ⟨hV, hc⟩
    obtain ⟨m1, m2, m3⟩ := more hD hdf hV
    refine hJ2 _ _ _ ⟨D, rfl, m1, m2, ?_⟩
    have e : rrN many rows t = (rows.length : Int) := by
      simp only [rrN]
      split
      · have := hc (by omega)
        repeat' split
        all_goals omega
      · rfl
    rw [e]; exact m3
  · rintro D V hD hdf ⟨he, _⟩; cases he
  · rintro id D V hD hdf ⟨he, hV⟩
    cases he
    obtain ⟨m1, m2, m3⟩ := more hD hdf hV
    have hj : J2 [] ((D :: ds).map markOf) V := hJ2 _ _ _ ⟨D, rfl, m1, m2, m3⟩
    exact ⟨hj⟩
  · rintro ch D V hD hdf ⟨he, _⟩; cases he
end Go.L
namespace Go.L
open Go Go.RowKit Go.Proofs
set_option linter.unusedSimpArgs false
set_option linter.unusedVariables false

theorem ret_int {R : Ending → World → Prop} {w : World} {q : IntKind} {z z' : Int} (h : R (.returned (.int q z)) w) (e : z = z') : R (.returned (.int q z')) w := e ▸ h
theorem ret_bool {R : Ending → World → Prop} {w : World} {z z' : Bool} (h : R (.returned (.bool z)) w) (e : z = z') : R (.returned (.bool z')) w := e ▸ h
/-- What a function that makes a value of its own returns. -/
def RetV (w : World) (r : AV) (R : Ending → World → Prop) : Prop := ∀ W, Below w.heap.size w W → R (.returned (vVal r)) W
theorem RetV.fin {w W : World} {r : AV} {R : Ending → World → Prop} {L : List Own} {b : Nat} {v0 v1 v2 : Value} (h : RetV w r R) (hS : St w L W) (i : Nat) (hi : L[i]? = some (.bx b 49 #[v0, v1, v2])) (e : vVal r = .agg #[v0, v1, v2]) : RetK Try.prog [.cell (.pointer (some ⟨b, 0, none⟩)) 49] R W :=
  RetK_agg hS i hi rfl (by rw [← e]; exact h W hS.below)

def ofT (t : Int) : AV := if t = 0 ∨ t = 1 then (1, t, ⟨#[]⟩) else (0, 0, ⟨#[]⟩)
def andT (a b : Int) : Int := if a = 0 ∨ b = 0 then 0 else if a = 1 ∧ b = 1 then 1 else 2
def notT (a : Int) : Int := if a = 0 ∨ a = 1 then 1 - a else 2
def orT (a b : Int) : Int := notT (andT (notT a) (notT b))
def knownT (r : AV) : Int := if checkE r ≠ 0 then -1 else if r.1 = 0 then 2 else if r.1 = 1 then r.2.1 else -1
/-- As the program has it: no truth is 0. -/
def knownP (r : AV) : Int := if r = (0, 0, ⟨#[]⟩) then 2 else if r.1 ≠ 1 ∨ checkE r ≠ 0 then 0 else r.2.1
def truthO (o n : Int) : Bool := if o = 7 then n == 0 else if o = 8 then n != 0 else if o = 9 then decide (n < 0) else if o = 10 then decide (n ≤ 0) else if o = 11 then decide (n > 0) else decide (n ≥ 0)
def boolV (b : Bool) : AV := (1, if b then 1 else 0, ⟨#[]⟩)

theorem And65 (a b : Int) (w : World) (R : Ending → World → Prop) (h : R (.returned (.int .i64 (andT a b))) w) : Calls Try.prog 65 #[.int .i64 a, .int .i64 b] w R := by
  refine c65 _ _ _ _ ?_
  unfold vc65
  refine kJn_inv (fun cs V => V = w ∧ a ≠ 0 ∧ b ≠ 0) ?_ ?_
  · rintro cs V ⟨rfl, h1, h2⟩ ds
    refine kEq_int (kIf_eq (fun e1 => kEq_int (kIf_eq (fun e2 => ?_) (fun e2 => ?_))) (fun e1 => kIf_f ?_))
    all_goals exact ret_int h (by unfold andT; grind)
  · intro J hJ
    refine kEq_int (kIf_eq (fun e1 => kIf_t ?_) (fun e1 => kEq_int (kIf_eq (fun e2 => ?_) (fun e2 => kD_i (hJ _ _ ⟨rfl, e1, e2⟩)))))
    all_goals exact ret_int h (by unfold andT; grind)
theorem Not69 (a : Int) (w : World) (R : Ending → World → Prop) (h : R (.returned (.int .i64 (notT a))) w) : Calls Try.prog 69 #[.int .i64 a] w R := by
  refine c69 _ _ _ ?_
  unfold vc69
  refine kEq_int (kIf_eq (fun e1 => kIf_t (kBin_sub ?_)) (fun e1 => kEq_int (kIf_eq (fun e2 => kBin_sub ?_) (fun e2 => ?_))))
  · rw [wrap_id (by omega) (by omega)]; exact ret_int h (by unfold notT; grind)
  · rw [wrap_id (by omega) (by omega)]; exact ret_int h (by unfold notT; grind)
  · exact ret_int h (by unfold notT; grind)
theorem Or67 (a b : Int) (w : World) (R : Ending → World → Prop) (h : R (.returned (.int .i64 (orT a b))) w) : Calls Try.prog 67 #[.int .i64 a, .int .i64 b] w R := by
  refine c67 _ _ _ _ ?_
  unfold vc67
  exact kCall_i (Try.call69 _ _) (Not69 _ _ _ (kCall_i (Try.call69 _ _) (Not69 _ _ _ (kCall_i (Try.call65 _ _) (And65 _ _ _ _ (kCall_i (Try.call69 _ _) (Not69 _ _ _ h)))))))
theorem Not97 (a : Int) (w : World) (R : Ending → World → Prop) (h : R (.returned (.int .i64 (notT a))) w) : Calls Try.prog 97 #[.int .i64 a] w R := by
  refine c97 _ _ _ ?_
  unfold vc97
  refine kNe_int (kIf_ne (fun e1 => kNe_int (kIf_ne (fun e2 => ?_) (fun e2 => kBin_sub ?_))) (fun e1 => kIf_f (kBin_sub ?_)))
  · exact ret_int h (by unfold notT; grind)
  · rw [wrap_id (by omega) (by omega)]; exact ret_int h (by unfold notT; grind)
  · rw [wrap_id (by omega) (by omega)]; exact ret_int h (by unfold notT; grind)
theorem Of51 (t : Int) (w : World) (R : Ending → World → Prop) (h : RetV w (ofT t) R) : Calls Try.prog 51 #[.int .i64 t] w R := by
  refine c51 _ _ _ ?_
  unfold vc51
  refine kAlloc_st Try.zeroValue49 (St.start w) fun b W hS => kEq_int (kIf_eq (fun e1 => kIf_t ?_) (fun e1 => kEq_int (kIf_eq (fun e2 => ?_) (fun e2 => ?_))))
  · exact kBuild_i (built49n 1 t) (kStoreA_st hS 0 rfl rfl (by simp [Value.oneCell']) Try.sizeOf49 fun W hS => h.fin hS 0 rfl (by simp [ofT, e1, vVal]))
  · exact kBuild_i (built49n 1 t) (kStoreA_st hS 0 rfl rfl (by simp [Value.oneCell']) Try.sizeOf49 fun W hS => h.fin hS 0 rfl (by simp [ofT, e2, vVal]))
  · exact kBuild_i built49_0 (kStoreA_st hS 0 rfl rfl (by simp [Value.oneCell']) Try.sizeOf49 fun W hS => h.fin hS 0 rfl (by simp [ofT, e1, e2, vVal]))
theorem Of93 (t : Int) (w : World) (R : Ending → World → Prop) (h : RetV w (ofT t) R) : Calls Try.prog 93 #[.int .i64 t] w R := by
  refine c93 _ _ _ ?_
  unfold vc93
  refine kAlloc_st Try.zeroValue49 (St.start w) fun b W hS => kNe_int (kIf_ne (fun e1 => kNe_int (kIf_ne (fun e2 => ?_) (fun e2 => ?_))) (fun e1 => kIf_f ?_))
  · exact kBuild_i built49_0 (kStoreA_st hS 0 rfl rfl (by simp [Value.oneCell']) Try.sizeOf49 fun W hS => h.fin hS 0 rfl (by simp [ofT, e1, e2, vVal]))
  · exact kBuild_i (built49n 1 t) (kStoreA_st hS 0 rfl rfl (by simp [Value.oneCell']) Try.sizeOf49 fun W hS => h.fin hS 0 rfl (by simp [ofT, e2, vVal]))
  · exact kBuild_i (built49n 1 t) (kStoreA_st hS 0 rfl rfl (by simp [Value.oneCell']) Try.sizeOf49 fun W hS => h.fin hS 0 rfl (by simp [ofT, e1, vVal]))
theorem Bool68 (b : Bool) (w : World) (R : Ending → World → Prop) (h : RetV w (boolV b) R) : Calls Try.prog 68 #[.bool b] w R := by
  refine c68 _ _ _ ?_
  unfold vc68
  refine kAlloc_st Try.zeroValue49 (St.start w) fun b W hS => kIf_b (fun e => ?_) (fun e => ?_)
  · exact kCall_i (Try.call51 _ _) (Of51 _ _ _ fun W hB => kStoreA_st (hS.bel hB) 0 rfl rfl (by simp [Value.oneCell', ofT]) Try.sizeOf49 fun W hS => h.fin hS 0 rfl (by rw [e]; rfl))
  · exact kCall_i (Try.call51 _ _) (Of51 _ _ _ fun W hB => kStoreA_st (hS.bel hB) 0 rfl rfl (by simp [Value.oneCell', ofT]) Try.sizeOf49 fun W hS => h.fin hS 0 rfl (by rw [e]; rfl))
theorem truth59 (b : Bool) (w : World) (R : Ending → World → Prop) (h : RetV w (boolV b) R) : Calls Try.prog 59 #[.bool b] w R := by
  refine c59 _ _ _ ?_
  unfold vc59
  refine kAlloc_st Try.zeroValue49 (St.start w) fun b W hS => kIf_b (fun e => ?_) (fun e => ?_)
  · exact kCall_i (Try.call93 _ _) (Of93 _ _ _ fun W hB => kStoreA_st (hS.bel hB) 0 rfl rfl (by simp [Value.oneCell', ofT]) Try.sizeOf49 fun W hS => h.fin hS 0 rfl (by rw [e]; rfl))
  · exact kCall_i (Try.call93 _ _) (Of93 _ _ _ fun W hB => kStoreA_st (hS.bel hB) 0 rfl rfl (by simp [Value.oneCell', ofT]) Try.sizeOf49 fun W hS => h.fin hS 0 rfl (by rw [e]; rfl))
theorem truth70 (o n : Int) (w : World) (R : Ending → World → Prop) (h : R (.returned (.bool (truthO o n))) w) : Calls Try.prog 70 #[.int .i64 o, .int .i64 n] w R := by
  refine c70 _ _ _ _ ?_
  unfold vc70
  refine kEq_int (kIf_eq (fun e1 => kEq_int ?_) (fun e1 => kEq_int (kIf_eq (fun e2 => kNe_int ?_) (fun e2 => kEq_int (kIf_eq (fun e3 => kBin_lss ?_) (fun e3 => kEq_int (kIf_eq (fun e4 => kBin_leq ?_) (fun e4 => kEq_int (kIf_eq (fun e5 => kBin_gtr ?_) (fun e5 => kBin_geq ?_))))))))))
  all_goals exact ret_bool h (by simp [truthO, *])
theorem within60 (o f u : Int) (w : World) (R : Ending → World → Prop) (h : R (.returned (.bool (decide (f ≤ o ∧ o ≤ u)))) w) : Calls Try.prog 60 #[.int .i64 o, .int .i64 f, .int .i64 u] w R := by
  refine c60 _ _ _ _ _ ?_
  unfold vc60
  refine kBin_geq (kIf_d (fun e => kBin_leq ?_) (fun e => ?_))
  · exact ret_bool h (by simp; omega)
  · exact ret_bool h (by simp; omega)
theorem Known66 (r : AV) (w : World) (R : Ending → World → Prop) (h : ∀ W, Below w.heap.size w W → R (.returned (.int .i64 (knownT r))) W) : Calls Try.prog 66 #[vVal r] w R := by
  refine c66 _ _ _ _ _ ?_
  unfold vc66
  refine kBox_st (St.start w) fun b W hS => kLoadA_st (c := ⟨Try.prog, _, false⟩) hS 0 rfl Try.underlying49 rfl Try.sizeOf49 rfl (kCall_i (Try.call64 _ _) (refCheckK r _ _ fun W hB => ?_))
  have hS := hS.bel hB
  refine kNe_int (kIf_ne (fun e => ret_int (h _ hS.below) (by simp [knownT, e])) (fun e => kFa49 _ (by omega) (kLd hS 0 rfl rfl rfl (kEq_int (kIf_eq (fun e1 => ret_int (h _ hS.below) ?_) (fun e1 => kEq_int (kIf_eq (fun e2 => kFa49 _ (by omega) (kLd hS 0 rfl rfl rfl (ret_int (h _ hS.below) ?_))) (fun e2 => ret_int (h _ hS.below) ?_))))))))
  · have e1 : r.1 = 0 := e1
    simp [knownT, e, e1]
  · have e2 : r.1 = 1 := e2
    simp [knownT, e, e2]
  · have e1 : r.1 ≠ 0 := e1
    have e2 : r.1 ≠ 1 := e2
    simp [knownT, e, e1, e2]
theorem Known94 (r : AV) (w : World) (R : Ending → World → Prop) (h : ∀ b W, Below w.heap.size w W → R (.returned (.tuple #[.int .i64 (knownP r), .bool b])) W) : Calls Try.prog 94 #[vVal r] w R := by
  have ret : ∀ (z : Int) (b : Bool) (W : World), Below w.heap.size w W → knownP r = z → R (.returned (.tuple #[.int .i64 z, .bool b])) W := fun z b W hB e => e ▸ h b W hB
  refine c94 _ _ _ _ _ ?_
  unfold vc94
  refine kBox_st (St.start w) fun b W hS => kJn_inv (fun cs W => St w [.bx b 49 (vVal r).cells] W ∧ r ≠ (0, 0, ⟨#[]⟩) ∧ r.1 = 1 ∧ checkE r = 0) ?_ ?_
  · rintro cs W ⟨hS, h1, h2, h3⟩ ds
    exact kFa49 _ (by omega) (kLd hS 0 rfl rfl rfl (ret _ _ _ hS.below (by simp [knownP, h1, h2, h3])))
  · intro J hJ
    refine kLoadA_st (c := ⟨Try.prog, _, false⟩) hS 0 rfl Try.underlying49 rfl Try.sizeOf49 rfl (kBuild_i built49_0 (kEq_49 (a := r) (b := (0, 0, ⟨#[]⟩)) (kIf_d (fun e => ret _ _ _ hS.below (by simp [knownP, e])) (fun e => ?_))))
    refine kFa49 _ (by omega) (kLd hS 0 rfl rfl rfl (kNe_int (kIf_ne (fun e1 => kIf_t (ret _ _ _ hS.below ?_)) (fun e1 => ?_))))
    · have e1 : r.1 ≠ 1 := e1
      simp [knownP, e, e1]
    · have e1 : r.1 = 1 := e1
      refine kLoadA_st (c := ⟨Try.prog, _, false⟩) hS 0 rfl Try.underlying49 rfl Try.sizeOf49 rfl (kCall_i (Try.call57 _ _) (check57 r _ _ fun W hB => ?_))
      have hS := hS.bel hB
      exact kNe_int (kIf_ne (fun e2 => ret _ _ _ hS.below (by simp [knownP, e, e1, e2])) (fun e2 => kD_i (hJ _ _ ⟨hS, e, e1, e2⟩)))
theorem number129 (n : Int) (fits : Bool) (w : World) (R : Ending → World → Prop) (h : fits = true → RetV w (2, n, ⟨#[]⟩) R) (h' : fits = false → ∀ W, Below w.heap.size w W → R (.panicked [pe 122 false]) W) : Calls Try.prog 129 #[.int .i64 n, .bool fits] w R := by
  refine c129 _ _ _ _ ?_
  unfold vc129
  refine kAlloc_st Try.zeroValue49 (St.start w) fun b W hS => kCall_i (Try.call54 _ _) (must54 _ _ _ _ (fun hf => ?_) (fun hf => h' hf _ hS.below))
  exact kBuild_i (built49n 2 n) (kStoreA_st hS 0 rfl rfl (by simp [Value.oneCell']) Try.sizeOf49 fun W hS => (h hf).fin hS 0 rfl rfl)
end Go.L
namespace Go.L
open Go Go.RowKit Go.Proofs
set_option linter.unusedSimpArgs false
set_option linter.unusedVariables false

/-- What a function that makes a value of its own answers, or the error that it raises. -/
structure RetE (w : World) (v : AV) (e : Int) (R : Ending → World → Prop) : Prop where
  ok : e = 0 → RetV w v R
  bad : e ≠ 0 → ∀ W, Below w.heap.size w W → R (.panicked [pe e false]) W
def big (z : Int) : Prop := -9223372036854775808 ≤ z ∧ z ≤ 9223372036854775807
instance (z : Int) : Decidable (big z) := by unfold big; infer_instance
def fitE (z : Int) : Int := if big z then 0 else 122
def iv (z : Int) : AV := (2, z, ⟨#[]⟩)
def pVal (a b : AV) : Value := .agg #[.int .i64 a.1, .int .i64 a.2.1, .string a.2.2, .int .i64 b.1, .int .i64 b.2.1, .string b.2.2]
def pCells (a b : AV) : Array Value := #[.int .i64 a.1, .int .i64 a.2.1, .string a.2.2, .int .i64 b.1, .int .i64 b.2.1, .string b.2.2]

theorem wrap_i64 {z : Int} (h0 : -18446744073709551616 ≤ z) (h1 : z ≤ 18446744073709551615) : IntKind.i64.wrap z = if z < -9223372036854775808 then z + 18446744073709551616 else if z > 9223372036854775807 then z - 18446744073709551616 else z := by
  simp only [IntKind.wrap, IntKind.bits, IntKind.signed]
  simp
  repeat' split
  all_goals omega
theorem kFa101 {X : Chain → World → Prop} {q : Bool} {w : World} {b o : Nat} {k : Value → World → Prop} (f : Nat) (hf : f < 2) (h : k (.pointer (some ⟨b, o + 3 * f, none⟩)) w) : kFa ⟨Try.prog, X, q⟩ w 101 (.pointer (some ⟨b, o, none⟩)) f k := by
  have : f = 0 ∨ f = 1 := by omega
  rcases this with rfl | rfl
  · exact kFa_i (c := ⟨Try.prog, X, q⟩) Try.underlying101 rfl (n := 2) Try.sizeOf49 h
  · exact kFa_i (c := ⟨Try.prog, X, q⟩) Try.underlying101 rfl (n := 2) Try.sizeOf49 h
theorem add99 (a b : AV) (ha : Rng a) (hb : Rng b) (w : World) (R : Ending → World → Prop) (h : RetE w (iv (a.2.1 + b.2.1)) (fitE (a.2.1 + b.2.1)) R) : Calls Try.prog 99 #[pVal a b] w R := by
  obtain ⟨a0, x, a2⟩ := a
  obtain ⟨b0, y, b2⟩ := b
  obtain ⟨ha0, ha1⟩ := ha
  obtain ⟨hb0, hb1⟩ := hb
  simp only at ha0 ha1 hb0 hb1 h
  refine c99 _ _ _ _ _ _ _ _ ?_
  unfold vc99
  refine kBox_st (St.start w) fun p W hS => kAlloc_st Try.zeroValue49 hS fun o W hS => ?_
  have hS : St w [.bx p 101 (pCells (a0, x, a2) (b0, y, b2)), .bx o 49 #[.int .i64 0, .int .i64 0, .string ⟨#[]⟩]] W := hS
  have key : ((decide (IntKind.i64.wrap (x + y) > x) == decide (y > 0)) = true ∨ y = 0) ↔ big (x + y) := by
    rw [wrap_i64 (by omega) (by omega)]; unfold big; rw [beq_iff_eq, decide_eq_decide]; repeat' split
    all_goals omega
  have fin : ∀ fits, (fits = true ↔ big (x + y)) → kCall (cR Try.prog R) W 129 #[.int .i64 (IntKind.i64.wrap (x + y)), .bool fits] fun v28 w_19 => kStore (cR Try.prog R) w_19 49 (.pointer (some ⟨o, 0, none⟩)) v28 fun w_20 => RetK Try.prog [.cell (.pointer (some ⟨o, 0, none⟩)) 49] R w_20 := by
    intro fits hf
    refine kCall_i (Try.call129 _ _) (number129 _ _ _ _ (fun e W hB => ?_) (fun e W hB => ?_))
    · have hin := hf.1 e
      have hw : IntKind.i64.wrap (x + y) = x + y := wrap_id hin.1 hin.2
      refine kStoreA_st (hS.bel hB) 1 rfl rfl (by simp [Value.oneCell']) Try.sizeOf49 fun W hS => (h.ok (by simp [fitE, hin])).fin hS 1 rfl (by simp [vVal, iv, hw])
    · have hin : ¬ big (x + y) := fun q => by simp [hf.2 q] at e
      have := h.bad (by simp [fitE, hin]) W (hS.bel hB).below
      rw [show fitE (x + y) = 122 from if_neg hin] at this
      exact this
  refine kFa101 0 (by omega) (kFa49 1 (by omega) (kLd hS 0 rfl rfl rfl (kFa101 1 (by omega) (kFa49 1 (by omega) (kLd hS 0 rfl rfl rfl (kBin_add (kFa101 0 (by omega) (kFa49 1 (by omega) (kLd hS 0 rfl rfl rfl (kBin_gtr (kFa101 1 (by omega) (kFa49 1 (by omega) (kLd hS 0 rfl rfl rfl (kBin_gtr (kEq_b4 (kIf_b (fun e => ?_) (fun e => ?_)))))))))))))))))
  · exact fin true (by simp only [true_iff]; exact key.1 (.inl e))
  · refine kFa101 1 (by omega) (kFa49 1 (by omega) (kLd hS 0 rfl rfl rfl (kEq_int (fin _ ?_))))
    rw [← key, e]; simp

/-- A number is made, where it fits. -/
theorem numK {X : Chain → World → Prop} {w V : World} {L : List Own} (hS : St w L V) {n : Int} {fits : Bool} {k : Value → World → Prop} (h1 : fits = true → ∀ W, St w L W → k (.agg #[.int .i64 2, .int .i64 n, .string ⟨#[]⟩]) W) (h2 : fits = false → ∀ W, St w L W → X [pe 122 false] W) :
    kCall ⟨Try.prog, X, false⟩ V 129 #[.int .i64 n, .bool fits] k :=
  kCall_i (Try.call129 _ _) (number129 _ _ _ _ (fun e W hB => h1 e W (hS.bel hB)) (fun e W hB => h2 e W (hS.bel hB)))
/-- A number is made and answered. -/
theorem numR {R : Ending → World → Prop} {w V : World} {L : List Own} (hS : St w L V) (i : Nat) {o : Nat} {v0 v1 v2 : Value} (hi : L[i]? = some (.bx o 49 #[v0, v1, v2])) {n z e : Int} {fits : Bool} (hf : fits = true → n = z ∧ e = 0) (hf' : fits = false → e = 122) (h : RetE w (iv z) e R) :
    kCall (cR Try.prog R) V 129 #[.int .i64 n, .bool fits] fun v28 w_19 => kStore (cR Try.prog R) w_19 49 (.pointer (some ⟨o, 0, none⟩)) v28 fun w_20 => RetK Try.prog [.cell (.pointer (some ⟨o, 0, none⟩)) 49] R w_20 := by
  refine numK hS (fun hok W hS => ?_) (fun hbad W hS => ?_)
  · obtain ⟨rfl, rfl⟩ := hf hok
    have hl : i < L.length := (List.getElem?_eq_some_iff.1 hi).1
    refine kStoreA_st hS i hi rfl (by simp [Value.oneCell']) Try.sizeOf49 fun W hS => (h.ok rfl).fin hS i (by rw [List.getElem?_set_self hl]; rfl) rfl
  · have e1 := hf' hbad
    subst e1
    exact h.bad (by omega) W hS.below
theorem fit_ok {z : Int} {fits : Bool} (hf : fits = true ↔ big z) {n : Int} (hn : big z → n = z) : (fits = true → n = z ∧ fitE z = 0) ∧ (fits = false → fitE z = 122) := by
  constructor
  · intro e; have := hf.1 e; exact ⟨hn this, if_pos this⟩
  · intro e; refine if_neg fun q => ?_; rw [hf.2 q] at e; cases e
theorem wrap_big {z : Int} (h : big z) : IntKind.i64.wrap z = z := wrap_id h.1 h.2

theorem sub100 (a b : AV) (ha : Rng a) (hb : Rng b) (w : World) (R : Ending → World → Prop) (h : RetE w (iv (a.2.1 - b.2.1)) (fitE (a.2.1 - b.2.1)) R) : Calls Try.prog 100 #[pVal a b] w R := by
  obtain ⟨a0, x, a2⟩ := a
  obtain ⟨b0, y, b2⟩ := b
  obtain ⟨ha0, ha1⟩ := ha
  obtain ⟨hb0, hb1⟩ := hb
  simp only at ha0 ha1 hb0 hb1 h
  refine c100 _ _ _ _ _ _ _ _ ?_
  unfold vc100
  refine kBox_st (St.start w) fun p W hS => kAlloc_st Try.zeroValue49 hS fun o W hS => ?_
  have hS : St w [.bx p 101 (pCells (a0, x, a2) (b0, y, b2)), .bx o 49 #[.int .i64 0, .int .i64 0, .string ⟨#[]⟩]] W := hS
  have key : ((decide (IntKind.i64.wrap (x - y) < x) == decide (y > 0)) = true ∨ y = 0) ↔ big (x - y) := by
    rw [wrap_i64 (by omega) (by omega)]; unfold big; rw [beq_iff_eq, decide_eq_decide]; repeat' split
    all_goals omega
  refine kFa101 0 (by omega) (kFa49 1 (by omega) (kLd hS 0 rfl rfl rfl (kFa101 1 (by omega) (kFa49 1 (by omega) (kLd hS 0 rfl rfl rfl (kBin_sub (kFa101 0 (by omega) (kFa49 1 (by omega) (kLd hS 0 rfl rfl rfl (kBin_lss (kFa101 1 (by omega) (kFa49 1 (by omega) (kLd hS 0 rfl rfl rfl (kBin_gtr (kEq_b4 (kIf_b (fun e => ?_) (fun e => ?_)))))))))))))))))
  · obtain ⟨h1, h2⟩ := fit_ok (fits := true) (by simp only [true_iff]; exact key.1 (.inl e)) wrap_big
    exact numR hS 1 rfl h1 h2 h
  · refine kFa101 1 (by omega) (kFa49 1 (by omega) (kLd hS 0 rfl rfl rfl (kEq_int ?_)))
    obtain ⟨h1, h2⟩ := fit_ok (z := x - y) (fits := y == 0) (by rw [← key, e]; simp) wrap_big
    exact numR hS 1 rfl h1 h2 h

theorem kLdV {X : Chain → World → Prop} {q : Bool} {w0 w : World} {L : List Own} {k : Value → World → Prop} (hS : St w0 L w) (i : Nat) {b : Nat} {t : TypeId} {cs : Array Value} (hi : L[i]? = some (.bx b t cs)) {off : Nat} {v0 v1 v2 : Value} (h0 : cs[off]? = some v0) (h1 : cs[off + 1]? = some v1) (h2 : cs[off + 2]? = some v2)
    (h : k (.agg #[v0, v1, v2]) w) : kLoad ⟨Try.prog, X, q⟩ w 49 (.pointer (some ⟨b, off, none⟩)) k := by
  refine kLoad_agg (c := ⟨Try.prog, X, q⟩) (cs := [v0, v1, v2]) ?_ Try.underlying49 rfl (fun w => Try.typeInfo49 w) rfl h
  intro j v hj
  match j, hj with
  | 0, hj => cases hj; exact hS.cell i hi off h0
  | 1, hj => cases hj; exact hS.cell i hi (off + 1) h1
  | 2, hj => cases hj; exact hS.cell i hi (off + 2) h2
theorem built101 (a : AV) : Try.prog.built 101 [(1, vVal a)] = some (pCells (0, 0, ⟨#[]⟩) a) := by
  have h1 := info_of (Try.typeInfo49 default)
  have h2 := info_of (Try.typeInfo101 default)
  simp [Program.built, h1, h2, Try.underlying101, Try.t101, Try.t49, Instr.fill, Value.cells, vVal, pCells]
  try exact ⟨rfl, Nat.le_of_ble_eq_true rfl⟩
theorem RetE.int {w V : World} {R : Ending → World → Prop} {L : List Own} {v : AV} {e : Int} (h : RetE w v e R) (hS : St w L V) : RetE V v e R :=
  ⟨fun he W hB => h.ok he W (hS.bel hB).below, fun he W hB => h.bad he W (hS.bel hB).below⟩
/-- A call that answers a value or raises, and its answer is stored and answered. -/
theorem retE_store {R : Ending → World → Prop} {w V : World} {L : List Own} (hS : St w L V) (i : Nat) {o : Nat} {v0 v1 v2 : Value} (hi : L[i]? = some (.bx o 49 #[v0, v1, v2])) {v : AV} {e : Int} (h : RetE w v e R) {g : FuncId} {args : Array Value}
    (hc : ∀ R, RetE V v e R → Calls Try.prog g args V R) (hp : ∀ (W : World) (k : Value → World → Prop) (X : Chain → World → Prop), Calls Try.prog g args W (after k X) → kCall ⟨Try.prog, X, false⟩ W g args k) :
    kCall (cR Try.prog R) V g args fun v28 w_19 => kStore (cR Try.prog R) w_19 49 (.pointer (some ⟨o, 0, none⟩)) v28 fun w_20 => RetK Try.prog [.cell (.pointer (some ⟨o, 0, none⟩)) 49] R w_20 := by
  have hl : i < L.length := (List.getElem?_eq_some_iff.1 hi).1
  refine hp _ _ _ (hc _ ⟨fun he W hB => ?_, fun he W hB => h.bad he W (hS.bel hB).below⟩)
  exact kStoreA_st (hS.bel hB) i hi rfl (by simp [Value.oneCell']) Try.sizeOf49 fun W hS => (h.ok he).fin hS i (by rw [List.getElem?_set_self hl]) rfl
theorem neg104 (a b : AV) (ha : Rng a) (w : World) (R : Ending → World → Prop) (h : RetE w (iv (-a.2.1)) (fitE (-a.2.1)) R) : Calls Try.prog 104 #[pVal a b] w R := by
  refine c104 _ _ _ _ _ _ _ _ ?_
  unfold vc104
  refine kBox_st (St.start w) fun p W hS => kAlloc_st Try.zeroValue49 hS fun o W hS => ?_
  have hS : St w [.bx p 101 (pCells a b), .bx o 49 #[.int .i64 0, .int .i64 0, .string ⟨#[]⟩]] W := hS
  refine kFa101 0 (by omega) (kLdV hS 0 rfl rfl rfl rfl (kBuild_i (built101 a) ?_))
  refine retE_store hS 1 rfl h (fun R h => sub100 (0, 0, ⟨#[]⟩) a ⟨by decide, by decide⟩ ha _ _ (by simpa using h)) (fun W k X h => kCall_i (Try.call100 _ _) h)
theorem abs105 (a b : AV) (ha : Rng a) (hk : a = iv a.2.1) (w : World) (R : Ending → World → Prop) (h : RetE w (iv (if a.2.1 < 0 then -a.2.1 else a.2.1)) (if a.2.1 < 0 then fitE (-a.2.1) else 0) R) : Calls Try.prog 105 #[pVal a b] w R := by
  refine c105 _ _ _ _ _ _ _ _ ?_
  unfold vc105
  refine kBox_st (St.start w) fun p W hS => kAlloc_st Try.zeroValue49 hS fun o W hS => ?_
  have hS : St w [.bx p 101 (pCells a b), .bx o 49 #[.int .i64 0, .int .i64 0, .string ⟨#[]⟩]] W := hS
  refine kFa101 0 (by omega) (kFa49 1 (by omega) (kLd hS 0 rfl rfl rfl (kBin_lss (kIf_d (fun e => ?_) (fun e => ?_)))))
  · rw [if_pos e, if_pos e] at h
    refine kLoadA_st (c := ⟨Try.prog, _, false⟩) hS 0 rfl Try.underlying101 rfl Try.sizeOf101 rfl ?_
    exact retE_store hS 1 rfl h (fun R h => neg104 a b ha _ _ h) (fun W k X h => kCall_i (Try.call104 _ _) h)
  · rw [if_neg e, if_neg e, ← hk] at h
    refine kFa101 0 (by omega) (kLdV hS 0 rfl rfl rfl rfl (kStoreA_st hS 1 rfl rfl (by simp [Value.oneCell', pCells]) Try.sizeOf49 fun W hS => (h.ok rfl).fin hS 1 rfl rfl))
theorem length107 (a b : AV) (w : World) (R : Ending → World → Prop) (h : RetV w (iv a.2.2.size) R) : Calls Try.prog 107 #[pVal a b] w R := by
  refine c107 _ _ _ _ _ _ _ _ ?_
  unfold vc107
  refine kBox_st (St.start w) fun p W hS => kAlloc_st Try.zeroValue49 hS fun o W hS => ?_
  have hS : St w [.bx p 101 (pCells a b), .bx o 49 #[.int .i64 0, .int .i64 0, .string ⟨#[]⟩]] W := hS
  refine kFa101 0 (by omega) (kFa49 2 (by omega) (kLd hS 0 rfl rfl rfl (kLen9 ?_)))
  exact numR (e := 0) hS 1 rfl (fun _ => ⟨rfl, rfl⟩) (fun e => by cases e) ⟨fun _ => h, fun e => absurd rfl e⟩
end Go.L
namespace Go.L
open Go Go.RowKit Go.Proofs
set_option linter.unusedSimpArgs false
set_option linter.unusedVariables false

theorem wrap_u64 {z : Int} : IntKind.u64.wrap z = z % 18446744073709551616 := by simp [IntKind.wrap, IntKind.bits, IntKind.signed]
theorem wrap_u64n {n : Nat} (h : n < 18446744073709551616) : IntKind.u64.wrap (n : Int) = (n : Int) := by rw [wrap_u64]; omega
theorem bits_and_mask (n : Nat) (hn : n < 18446744073709551616) : bits .and .u64 n 4294967295 = ((n % 4294967296 : Nat) : Int) := by
  have h1 : ((BitVec.ofInt 64 (n : Int)) &&& (BitVec.ofInt 64 4294967295)).toNat = n % 4294967296 := by
    rw [BitVec.toNat_and]
    show (BitVec.ofInt 64 (n : Int)).toNat &&& (2 ^ 32 - 1) = _
    rw [Nat.and_two_pow_sub_one_eq_mod, BitVec.toNat_ofInt]; omega
  show IntKind.u64.wrap (((BitVec.ofInt 64 (n : Int)) &&& (BitVec.ofInt 64 4294967295)).toNat : Int) = _
  rw [h1]; exact wrap_u64n (by omega)

section
variable {c : Cx} {w : World} {k : Value → World → Prop} {t : TypeId}
theorem kAndM {n : Nat} (hn : n < 18446744073709551616) (h : k (.int .u64 ((n % 4294967296 : Nat) : Int)) w) : kBin c w .and t (.int .u64 n) (.int .u64 4294967295) k := kBin_and (by rwa [bits_and_mask n hn])
theorem kShr32 {n : Nat} (h : k (.int .u64 ((n / 4294967296 : Nat) : Int)) w) : kBin c w .shr t (.int .u64 n) (.int .u64 32) k := kBin_shr (by omega) (by decide) (by
  have : ((n : Int) / 2 ^ (32 : Int).toNat) = ((n / 4294967296 : Nat) : Int) := by
    show (n : Int) / 4294967296 = _
    omega
  rwa [this])
theorem kMulN {a b : Nat} (hn : a * b < 18446744073709551616) (h : k (.int .u64 ((a * b : Nat) : Int)) w) : kBin c w .mul t (.int .u64 a) (.int .u64 b) k := kBin_mul (by
  have := wrap_u64n hn
  rw [Int.natCast_mul] at this
  rw [this, ← Int.natCast_mul]; exact h)
theorem kAddN {a b : Nat} (hn : a + b < 18446744073709551616) (h : k (.int .u64 ((a + b : Nat) : Int)) w) : kBin c w .add t (.int .u64 a) (.int .u64 b) k := kBin_add (by
  have := wrap_u64n hn
  rw [Int.natCast_add] at this
  rw [this, ← Int.natCast_add]; exact h)
end
theorem mul_lt {a b : Nat} (ha : a < 4294967296) (hb : b < 4294967296) : a * b ≤ 18446744065119617025 := by
  have := Nat.mul_le_mul (Nat.le_of_lt_succ (show a < 4294967295 + 1 by omega)) (Nat.le_of_lt_succ (show b < 4294967295 + 1 by omega))
  omega
theorem mul_hi (x y : Nat) : (x * y) / 18446744073709551616 = (x / 4294967296) * (y / 4294967296) + ((x / 4294967296) * (y % 4294967296) + (x % 4294967296) * (y % 4294967296) / 4294967296) / 4294967296 + (((x / 4294967296) * (y % 4294967296) + (x % 4294967296) * (y % 4294967296) / 4294967296) % 4294967296 + (x % 4294967296) * (y / 4294967296)) / 4294967296 := by
  have ex : x = 4294967296 * (x / 4294967296) + x % 4294967296 := by omega
  have ey : y = 4294967296 * (y / 4294967296) + y % 4294967296 := by omega
  generalize x / 4294967296 = a at *
  generalize x % 4294967296 = b at *
  generalize y / 4294967296 = c at *
  generalize y % 4294967296 = d at *
  subst ex ey
  have e : (4294967296 * a + b) * (4294967296 * c + d) = 18446744073709551616 * (a * c) + 4294967296 * (a * d) + 4294967296 * (b * c) + b * d := by
    rw [Nat.add_mul, Nat.mul_add, Nat.mul_add]
    have e1 : 4294967296 * a * (4294967296 * c) = 18446744073709551616 * (a * c) := by
      rw [Nat.mul_mul_mul_comm]
    have e2 : 4294967296 * a * d = 4294967296 * (a * d) := Nat.mul_assoc _ _ _
    have e3 : b * (4294967296 * c) = 4294967296 * (b * c) := Nat.mul_left_comm _ _ _
    rw [e1, e2, e3]; omega
  rw [e]
  omega
theorem Mul131 (x y : Nat) (hx : x < 18446744073709551616) (hy : y < 18446744073709551616) (w : World) (R : Ending → World → Prop) (h : R (.returned (.tuple #[.int .u64 ((x * y / 18446744073709551616 : Nat) : Int), .int .u64 ((x * y % 18446744073709551616 : Nat) : Int)])) w) : Calls Try.prog 131 #[.int .u64 x, .int .u64 y] w R := by
  refine c131 _ _ _ _ ?_
  unfold vc131
  have hx0 : x % 4294967296 < 4294967296 := by omega
  have hx1 : x / 4294967296 < 4294967296 := by omega
  have hy0 : y % 4294967296 < 4294967296 := by omega
  have hy1 : y / 4294967296 < 4294967296 := by omega
  have m1 := mul_lt hx0 hy0
  have m2 := mul_lt hx1 hy0
  have m3 := mul_lt hx0 hy1
  have m4 := mul_lt hx1 hy1
  have hhi := mul_hi x y
  have hlt : x * y / 18446744073709551616 < 18446744073709551616 := by
    rw [Nat.div_lt_iff_lt_mul (by omega)]
    exact Nat.mul_lt_mul'' hx hy
  refine kAndM hx (kShr32 (kAndM hy (kShr32 (kMulN (by omega) (kMulN (by omega) (kShr32 (kAddN (by omega) (kAndM (by omega) (kShr32 (kMulN (by omega) (kAddN (by omega) (kMulN (by omega) (kAddN (by omega) (kShr32 (kAddN (by omega) (kBin_mul ?_))))))))))))))))
  have e1 : IntKind.u64.wrap ((x : Int) * (y : Int)) = ((x * y % 18446744073709551616 : Nat) : Int) := by
    rw [← Int.natCast_mul, wrap_u64]; generalize x * y = m; omega
  rw [e1, ← hhi]; exact h
theorem kCvW2_84 {X : Chain → World → Prop} {q : Bool} {w : World} {k : Value → World → Prop} {a : Int} (h : k (.int .u64 (IntKind.u64.wrap a)) w) : kConv ⟨Try.prog, X, q⟩ w 2 84 (.int .i64 a) k :=
  kConv_int (c := ⟨Try.prog, X, q⟩) (q' := .u64) (by rw [show (Cx.mk Try.prog X q).P.underlying 2 = _ from Try.underlying2]; rfl) Try.underlying84 h
theorem size130 (n : Int) (hn : big n) (w : World) (R : Ending → World → Prop) (h : R (.returned (.int .u64 (n.natAbs : Int))) w) : Calls Try.prog 130 #[.int .i64 n] w R := by
  obtain ⟨h0, h1⟩ := hn
  refine c130 _ _ _ ?_
  unfold vc130
  refine kBin_lss (kIf_d (fun e => ?_) (fun e => ?_))
  · refine kCvW2_84 (kNeg ?_)
    have : IntKind.u64.wrap (-IntKind.u64.wrap n) = (n.natAbs : Int) := by rw [wrap_u64, wrap_u64]; omega
    rw [this]; exact h
  · refine kCvW2_84 ?_
    have : IntKind.u64.wrap n = (n.natAbs : Int) := by rw [wrap_u64]; omega
    rw [this]; exact h
end Go.L
