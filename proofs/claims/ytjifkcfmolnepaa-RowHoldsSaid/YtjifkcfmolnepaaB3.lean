/- Contracts of single functions: no condition but those that each states. -/
import Derived.Test.YtjifkcfmolnepaaB2
set_option linter.unusedVariables false
set_option linter.unusedSimpArgs false
namespace Go.L
open Go Go.RowKit Go.Proofs
set_option linter.unusedSimpArgs false
set_option linter.unusedVariables false

theorem RowHolds4 (a b : List AV) (w : World) (ao bo : Option Addr) (ac bc : Nat) (ha : Sl w ao 3 (a.map vVal)) (hb : Sl w bo 3 (b.map vVal)) (hal : a.length ≤ 9223372036854775807) (hbl : b.length ≤ 9223372036854775807) (hra : ∀ r ∈ a, Rng r) (hrb : ∀ r ∈ b, Rng r)
    (R : Ending → World → Prop) (h : ∀ W, Below w.heap.size w W → R (.returned (.bool true)) W) : Calls Try.prog 4 #[.slice ao a.length ac, .slice bo b.length bc] w R := by
  refine c4 _ _ _ _ _ _ _ _ ?_
  unfold vc4
  have wk : ∀ W, Below w.heap.size w W → Calls Try.prog 11 #[] W (after (fun v W => R (.returned v) W) (fun ch W => R (.panicked ch) W)) := fun W hB => works11 W _ fun W' hB' => h W' (hB.trans (hB'.mono hB.size))
  have e3 := encE_012 a
  have f3 := encE_012 b
  have hsum : ∀ x y : Int, (x = 0 ∨ x = 2 ∨ x = 3) → (y = 0 ∨ y = 2 ∨ y = 3) → IntKind.i64.wrap (x + y) = x + y := fun x y hx hy => wrap_id (by omega) (by omega)
  refine kJn_inv (fun cs W => Below w.heap.size w W ∧ a.length ≤ 40 ∧ b.length ≤ 40) ?_ ?_
  · rintro cs W1 ⟨hB1, h1, h2⟩ ds
    have hS := (St.start w).bel hB1
    refine kCall_i (Try.call18 _ _) (Encode18 a W1 ao ac (ha.below hB1) hra (by omega) _ (fun hea x W hBx hx => ?_) (fun hea W hBx => ?_))
    · have hS := hS.made hBx hx
      refine kExt_0 (kExt_1 (kCall_i (Try.call18 _ _) (Encode18 b W bo bc (hb.below hS.below) hrb (by omega) _ (fun heb y W hBy hy => ?_) (fun heb W hBy => ?_))))
      · have hS := hS.made hBy hy
        refine kExt_0 (kExt_1 (kCall_i (Try.call15 _ _) (num15 _ _ _ (kCall_i (Try.call15 _ _) (num15 _ _ _ (kBin_add (kNe_int (kIf_ne (fun hne => absurd rfl hne) (fun _ => ?_)))))))))
        -- both are encoded
        have hS : St w [.row x 5 1 (encB a).length ((encB a).map vB), .row y 5 1 (encB b).length ((encB b).map vB)] W := hS
        refine ⟨⟨fun cs W => ∃ (i : Nat) (p : Value), cs = [p, .int .i64 i] ∧ i ≤ a.length ∧ St w [.row x 5 1 (encB a).length ((encB a).map vB), .row y 5 1 (encB b).length ((encB b).map vB), .row p 3 1 i (flat (((List.range i).map (fun (j : Nat) => (j : Int))).map vInt))] W,
          fun cs _ => a.length - (match cs with | [_, .int _ i] => i.toNat | _ => 0), ⟨0, .slice none 0 0, rfl, by omega, ?_⟩, ?_⟩⟩
        · exact hS.adopt (o := .row (.slice none 0 0) 3 1 0 []) (World.ownsRow_nil _ _ _ _) (fun p hp => by
            cases hpb : p.blk with
            | none => exact .inl rfl
            | some k => exact .inr (by simp [Own.blk, Value.ownBlock]))
        rintro cs ds W ⟨i, p, rfl, hia, hS⟩
        dsimp only [List.getD_cons_zero, List.getD_cons_succ]
        refine kLen22 (kBin_lss (kIf_d (fun hlt => ?_) (fun hge => ?_)))
        · refine kBuildS_st (E23 w) hS [vInt i] rfl rfl (by omega) (by omega) (by simp [vInt, Value.cells]) fun q W hS => kAppRow_st (E23 w) hS 2 3 rfl rfl (by simp [flat, vInt, Value.cells, Value.oneCell']) (by simp [maxLen]; omega) (by omega) fun p' W hS => ?_
          have hS := hS.take 3
          refine kBin_add (kD_i ⟨⟨i + 1, p', by rw [wrap_id (by omega) (by omega)]; rfl, by omega, ?_⟩, ?_⟩)
          · have e : flat (((List.range (i + 1)).map (fun (j : Nat) => (j : Int))).map vInt) = flat (((List.range i).map (fun (j : Nat) => (j : Int))).map vInt) ++ flat [vInt (i : Int)] := by
              rw [List.range_succ]; simp only [List.map_append, List.map_cons, List.map_nil, flat, List.flatMap_append]
            rw [e]; exact hS
          · rw [wrap_id (by omega) (by omega)]; show a.length - ((i : Int) + 1).toNat < a.length - (i : Int).toNat; omega
        · have hi : i = a.length := by omega
          subst hi
          obtain ⟨hok, hpa⟩ := pick_all a
          have hrow : W.ownsRow w.heap.size 3 1 p a.length (flat (((List.range a.length).map (fun (j : Nat) => (j : Int))).map vInt)) := hS.get 2 rfl
          obtain ⟨pa, pc, rfl, hp⟩ := Sl.of_owns (vInts_size _) hrow (by simp)
          refine kCall_i (Try.call12 _ _) ?_
          have hPick := Pick12 a ((List.range a.length).map (fun (j : Nat) => (j : Int))) W ao pa ac pc (ha.below hS.below) hp (by simp; omega) (by omega)
          rw [List.length_map, List.length_range] at hPick
          refine hPick _ fun V hBe => ⟨fun hno => absurd hok hno, fun _ z hz => ?_⟩
          rw [hpa, List.length_map, List.length_range] at hz
          have hS := hS.made hBe hz
          have hrx : V.ownsRow w.heap.size 5 1 x (encB a).length ((encB a).map vB) := hS.get 0 rfl
          have hry : V.ownsRow w.heap.size 5 1 y (encB b).length ((encB b).map vB) := hS.get 1 rfl
          have hrz : V.ownsRow w.heap.size 49 3 z a.length (flat (a.map vVal)) := hS.get 3 rfl
          obtain ⟨xa, xc, rfl, hxB⟩ := Bs.of_owns hrx
          obtain ⟨ya, yc, rfl, hyB⟩ := Bs.of_owns hry
          obtain ⟨za, zc, rfl, hz⟩ := Sl.of_owns (flatMap_vVal_size a) hrz (by simp)
          have heq : decide (mkS (encB a) = mkS (encB b)) = decide (a = b) := by
            apply decide_eq_decide.2
            constructor
            · intro hm
              exact encB_inj hea heb hra hrb (mkS_inj (encB_256 (encE_bad hea)) (encB_256 (encE_bad heb)) hm)
            · rintro rfl; rfl
          refine kExt_0 (kExt_1 (kDrawn_i (kDrawn_i (kCv_str hxB (kCv_str hyB (kEq_str (kDrew_st hS fun V hS => kCall_i (Try.call14 _ _) (same14 a b V ao bo ac bc (ha.below hS.below) (hb.below hS.below) (by omega) (by omega) _ fun V hBe => ?_))))))))
          have hS := hS.bel hBe
          obtain ⟨xa2, xc2, hx2, hxB⟩ := Bs.of_owns (show V.ownsRow w.heap.size 5 1 (.slice xa (encB a).length xc) (encB a).length ((encB a).map vB) from hS.get 0 rfl)
          obtain ⟨ya2, yc2, hy2, hyB⟩ := Bs.of_owns (show V.ownsRow w.heap.size 5 1 (.slice ya (encB b).length yc) (encB b).length ((encB b).map vB) from hS.get 1 rfl)
          cases hx2; cases hy2
          refine kCv_str hxB (kSame_i (kCv_str hyB (kSame_i (kEq_str (kSame_i (kEq_b4 ?_))))))
          rw [heq, beq_self_eq_true]
          refine kIf_t (kDrew_st hS fun V hS => kCall_i (Try.call14 _ _) (same14 a a V za ao zc ac (hS.sl 3 rfl (flatMap_vVal_size a) (by simp)) (ha.below hS.below) (by omega) (by omega) _ fun V hBe => ?_))
          have hS := hS.bel hBe
          rw [decide_eq_true rfl]
          refine kIf_t (kDrew_st hS fun V hS => kCall_i (Try.call15 _ _) (num15 _ _ _ (kEq_int (kIf_t (kDrew_st hS fun V hS => kCall_i (Try.call11 _ _) ?_)))))
          refine works11 V _ fun V' hB' => kDrew_b (hS.below.trans (hB'.mono hS.size)) fun V hB => h V hB
      · have hS := hS.bel hBy
        refine kExt_0 (kExt_1 (kCall_i (Try.call15 _ _) (num15 _ _ _ (kCall_i (Try.call15 _ _) (num15 _ _ _ (kBin_add ?_))))))
        rw [hsum 0 _ (.inl rfl) f3]
        exact kNe_int (kIf_ne (fun _ => kCall_i (Try.call11 _ _) (wk _ hS.below)) (fun he => by omega))
    · have hS := hS.bel hBx
      refine kExt_0 (kExt_1 (kCall_i (Try.call18 _ _) (Encode18 b W bo bc (hb.below hS.below) hrb (by omega) _ (fun heb y W hBy hy => ?_) (fun heb W hBy => ?_))))
      · have hS := hS.made hBy hy
        refine kExt_0 (kExt_1 (kCall_i (Try.call15 _ _) (num15 _ _ _ (kCall_i (Try.call15 _ _) (num15 _ _ _ (kBin_add ?_))))))
        rw [hsum _ 0 e3 (.inl rfl)]
        exact kNe_int (kIf_ne (fun _ => kCall_i (Try.call11 _ _) (wk _ hS.below)) (fun he => by omega))
      · have hS := hS.bel hBy
        refine kExt_0 (kExt_1 (kCall_i (Try.call15 _ _) (num15 _ _ _ (kCall_i (Try.call15 _ _) (num15 _ _ _ (kBin_add ?_))))))
        rw [hsum _ _ e3 f3]
        exact kNe_int (kIf_ne (fun _ => kCall_i (Try.call11 _ _) (wk _ hS.below)) (fun he => by omega))
  · intro J hJ
    refine kCall_i (Try.call10 _ _) (few10 a w ao ac ha hal _ (kUn_not (kIf_nd (fun hno => kIf_t (kCall_i (Try.call11 _ _) (wk _ (Below.refl _ _)))) (fun h1 => ?_))))
    refine kCall_i (Try.call10 _ _) (few10 b w bo bc hb hbl _ (kUn_not (kIf_nd (fun hno => kCall_i (Try.call11 _ _) (wk _ (Below.refl _ _))) (fun h2 => ?_))))
    exact kD_i (hJ _ _ ⟨Below.refl _ _, h1.2, h2.2⟩)
end Go.L
