/- Contracts of single functions: no condition but those that each states. -/
import Derived.Test.YtfajbldbhkkfoaaDoorB4
import Derived.Shelf.Vars
import Derived.LaidMore
import Derived.Lay
import Derived.Handed
import Derived.Test.YtfajbldbhkkfoaaDoorTie
import Derived.Test.YtfajbldbhkkfoaaDoorCards
set_option linter.unusedVariables false
set_option linter.unusedSimpArgs false
namespace Go.L
open Go Go.RowKit Go.Proofs
set_option linter.unusedSimpArgs false
set_option linter.unusedVariables false

theorem lay89 (r : AV) (hr : Rng r) (w : World) (R : Ending → World → Prop) (h : MakesS w (beN 8 (r.2.1 + 9223372036854775808).toNat) R) : Calls Tryd.prog 89 #[vVal r] w R := by
  obtain ⟨t, z, s⟩ := r
  have h1 : -9223372036854775808 ≤ z := hr.1
  have h2 : z ≤ 9223372036854775807 := hr.2
  refine c89 _ _ _ _ _ ?_
  unfold vc89
  refine kBox_st (St.start w) fun b W hS => xFa41_1 (kLd hS 0 rfl rfl rfl (kConv_int (c := ⟨Tryd.prog, _, false⟩) (q' := .u64) (by rw [show (Cx.mk Tryd.prog _ false).P.underlying 2 = _ from Tryd.underlying2]; rfl) Tryd.underlying71 ?_))
  obtain ⟨u, hu⟩ : ∃ u : Nat, u = if z < 0 then (z + 18446744073709551616).toNat else z.toNat := ⟨_, rfl⟩
  have hu1 : IntKind.u64.wrap z = (u : Int) := by
    rw [hu]; split <;> (simp [IntKind.wrap, IntKind.bits, IntKind.signed]; omega)
  have hu2 : u < 18446744073709551616 := by rw [hu]; split <;> omega
  rw [hu1]
  refine kBin_xor ?_
  rw [xor_top u hu2]
  have hu3 : (if u < 9223372036854775808 then u + 9223372036854775808 else u - 9223372036854775808) = (z + 9223372036854775808).toNat := by
    rw [hu]; split <;> split <;> omega
  rw [hu3]
  refine kCall_i (Tryd.call90 _ _) (eights90 _ (by omega) _ _ fun W2 hB => ?_)
  refine kAlloc_st Tryd.zeroValue134 (hS.bel hB) fun b3 W hS => kStoreAR hS (by simp [beN_length]; rfl) (by simp [vB, Value.oneCell']) (by simp [beN_length]) fun W hS => ?_
  refine kSl_arr (c := ⟨Tryd.prog, _, false⟩) Tryd.underlying134 Tryd.sizeOf5 (h _ W hS.below ?_)
  refine .inr ⟨⟨b3, 0, none⟩, 8, by simp [beN_length], by intro v hv; obtain ⟨x, _, rfl⟩ := List.mem_map.1 hv; rfl, .inr ⟨b3, 0, rfl, (Own.lt (hS.get _ at_r) b3 rfl).2, ?_⟩⟩
  rw [flat_vB]
  intro j v hj
  exact hS.cell _ at_r (0 + j) (by rw [Nat.zero_add]; simpa using hj)
def laidEs : Array MapEntry := #[{ key := .int .i64 0, val := .func (.func 87) #[] #[], born := 0 }, { key := .int .i64 1, val := .func (.func 88) #[] #[], born := 1 }, { key := .int .i64 2, val := .func (.func 89) #[] #[], born := 2 },
  { key := .int .i64 3, val := .func (.func 85) #[] #[], born := 3 }, { key := .int .i64 4, val := .func (.func 85) #[] #[], born := 4 }]
theorem laid43 (w : World) (R : Ending → World → Prop) (h : ∀ b W, Below w.heap.size w W → w.heap.size ≤ b → W.heap[b]? = some (.map laidEs 5) → R (.returned (.map (some b))) W) : Calls Tryd.prog 43 #[] w R := by
  refine c43 _ _ ?_
  unfold vc43
  refine kMkMap_st (St.start w) fun b W hS => ?_
  refine kUpd_st hS 0 rfl Tryd.underlying99 Tryd.underlying39 rfl rfl fun W hS => ?_
  refine kUpd_st hS 0 rfl Tryd.underlying99 Tryd.underlying39 rfl rfl fun W hS => ?_
  refine kUpd_st hS 0 rfl Tryd.underlying99 Tryd.underlying39 rfl rfl fun W hS => ?_
  refine kUpd_st hS 0 rfl Tryd.underlying99 Tryd.underlying39 rfl rfl fun W hS => ?_
  refine kUpd_st hS 0 rfl Tryd.underlying99 Tryd.underlying39 rfl rfl fun W hS => ?_
  have hg := hS.get 0 rfl
  exact h b W hS.below hg.1 hg.2
def fnOf (t : Int) : FuncId := if t = 0 then 87 else if t = 1 then 88 else if t = 2 then 89 else 85
theorem laid_find (t : Int) (h0 : 0 ≤ t) (h4 : t ≤ 4) : ∃ j, Instr.findNow (.int .i64) (.int .i64 t) laidEs.toList 0 = some (some (j, .func (.func (fnOf t)) #[] #[])) := by
  have : t = 0 ∨ t = 1 ∨ t = 2 ∨ t = 3 ∨ t = 4 := by omega
  rcases this with rfl | rfl | rfl | rfl | rfl <;> exact ⟨_, rfl⟩
theorem fine_of {r : AV} (hc : checkE r = 0) (hr : Rng r) : Fine r := by
  have hsz := checkE_size hc
  have hc2 : ¬ (r.1 < 0 ∨ 4 < r.1 ∨ (r.1 < 3 ∧ r.2.2 ≠ ⟨#[]⟩) ∨ (r.1 ≠ 1 ∧ r.1 ≠ 2 ∧ r.2.1 ≠ 0) ∨ (r.1 = 1 ∧ r.2.1 ≠ 0 ∧ r.2.1 ≠ 1)) := by
    intro q
    have := hc
    unfold checkE at this
    rw [if_neg (by omega), if_pos q] at this
    omega
  exact { kind := by omega, text := fun h => Decidable.byContradiction fun q => hc2 (.inr (.inr (.inl ⟨h, q⟩))), int := fun h h' => Decidable.byContradiction fun q => hc2 (.inr (.inr (.inr (.inl ⟨h, h', q⟩)))), bool := fun h => by omega, rng := hr }
theorem lay_call (r : AV) (hc : checkE r = 0) (hr : Rng r) (w : World) (hG : Glob w) (R : Ending → World → Prop) (h : MakesS w (keyT r) R) :
    (∀ args w, (callFunc (fnOf r.1) args).run Tryd.prog w = .ok (.enter (fnOf r.1) args) w) ∧ Calls Tryd.prog (fnOf r.1) #[vVal r] w R := by
  have hf := fine_of hc hr
  have hs := checkE_size hc
  obtain ⟨t, n, s⟩ := r
  have hk := hf.kind
  have : t = 0 ∨ t = 1 ∨ t = 2 ∨ t = 3 ∨ t = 4 := by have := hk.1; have := hk.2; dsimp only at *; omega
  rcases this with rfl | rfl | rfl | rfl | rfl
  · exact ⟨Tryd.call87, lay87 _ w R h⟩
  · have hb := hf.bool rfl
    dsimp only at hb
    exact ⟨Tryd.call88, lay88 _ (by show 0 ≤ n; omega) (by show n ≤ 1; omega) w R h⟩
  · exact ⟨Tryd.call89, lay89 _ hr w R h⟩
  · exact ⟨Tryd.call85, lay85 _ hs w hG R (by have e : keyT (3, n, s) = escT (bl s) := by rw [← byN_bl]; rfl
                                              rw [← e]; exact h)⟩
  · exact ⟨Tryd.call85, lay85 _ hs w hG R (by have e : keyT (4, n, s) = escT (bl s) := by rw [← byN_bl]; rfl
                                              rw [← e]; exact h)⟩
def kErr (rows : List AV) : Int := if badE rows ≠ 0 then badE rows else if (keyL rows).length ≤ 80 then 0 else 3
theorem escT_len : ∀ l : List Nat, (escT l).length ≤ 2 * l.length + 2
  | [] => by simp [escT]
  | c :: l => by have := escT_len l; unfold escT; split <;> simp <;> omega
theorem keyV_len (r : AV) (hs : r.2.2.size ≤ 1000) : (keyV r).length ≤ 2003 := by
  have := escT_len (byN r.2.2)
  have e : (byN r.2.2).length = r.2.2.size := by rw [byN_bl, bl_length]
  unfold keyV keyT
  split
  · simp
  · split
    · simp [beN_length]
    · split
      · simp; omega
      · simp
theorem keyL_len {rows : List AV} (h : ∀ r ∈ rows, checkE r = 0) : (keyL rows).length ≤ 2003 * rows.length := by
  induction rows with
  | nil => simp [keyL]
  | cons a l ih =>
    have h1 := keyV_len a (checkE_size (h a (by simp)))
    have h2 := ih (fun r hr => h r (by simp [hr]))
    simp only [keyL, List.flatMap_cons, List.length_append, List.length_cons] at h2 ⊢
    omega
theorem keyL_snoc (l : List AV) (r : AV) : keyL (l ++ [r]) = keyL l ++ (r.1.toNat :: keyT r) := by simp [keyL, keyV]
theorem encoded24 (rows : List AV) (w : World) (hG : Glob w) (lo : Option Addr) (lc : Nat) (hl : Sl w lo 3 (rows.map vVal)) (hr : ∀ r ∈ rows, Rng r) (hb : rows.length ≤ 1000) (R : Ending → World → Prop)
    (h0 : kErr rows = 0 → ∀ x W, Below w.heap.size w W → W.ownsRow w.heap.size 5 1 x (keyL rows).length ((keyL rows).map vB) → R (.returned x) W)
    (h1 : kErr rows ≠ 0 → ∀ W, Below w.heap.size w W → R (.panicked [pe (kErr rows) false]) W) : Calls Tryd.prog 24 #[.slice lo rows.length lc] w R := by
  refine c24 _ _ _ _ _ ?_
  unfold vc24
  refine kAlloc_st Tryd.zeroValue25 (St.start w) fun b2 W hS => ?_
  refine kCall_i (Tryd.call41 _ _) (values78 _ _ _ _ _ fun bv W6 hB hbv hbox => ?_)
  have hS := hS.push (grown_of_below hB) (o := .bx bv 22 #[.slice lo rows.length lc]) ⟨Nat.le_trans hS.size hbv, hbox⟩ (fun k hk => by cases hk; exact hbv)
  have hS := hS.adopt (o := .row (.slice none 0 0) 5 1 0 []) (World.ownsRow_nil _ _ _ _) (fun p _ => by cases p.blk with | none => exact .inl rfl | some k => exact .inr (by simp [Own.blk, Value.ownBlock]))
  refine kRange_cl (w0 := w) rows.length (fun i => [(rows.map vVal).getD i undef])
    (fun i L => ∃ x, L = [.bx b2 25 #[x], .bx bv 22 #[.slice lo rows.length lc], .row x 5 1 (keyL (rows.take i)).length ((keyL (rows.take i)).map vB)] ∧ ∀ r ∈ rows.take i, checkE r = 0)
    (fun ex L => ex = .panic [pe (badE rows) false] ∧ L = [] ∧ badE rows ≠ 0) hS.size
    (by rintro i L ⟨x, rfl, _⟩ o ho; simp at ho; rcases ho with rfl | rfl | rfl <;> trivial) (by rintro ex L ⟨_, rfl, _⟩ o ho; cases ho) (fun _ => rfl) ⟨_, ⟨_, rfl, by simp⟩, hS⟩ ?_
    (iter112 hbox (by omega) (by rintro i V ⟨L, ⟨x, rfl, _⟩, hV⟩; exact hl.below hV.below)) ?_ ?_ ?_ ?_
  · rintro i l D lo' V L hi hl1 hD ⟨x, rfl, hc⟩ hV
    have hx : ([(rows.map vVal).getD i undef] : List Value).getD 0 undef = vVal rows[i] := by simp [hi]
    rw [hx]
    refine kAlloc_st Tryd.zeroValue41 hV fun b3 V1 hS1 => kStoreAR hS1 rfl (by simp [Value.oneCell']) Tryd.sizeOf41 fun V2 hS2 => rndMid_cl hV hS2 fun lo2 V3 hS3 => ?_
    have hS3 : St w [.bx b2 25 #[x], .bx bv 22 #[.slice lo rows.length lc], .row x 5 1 (keyL (rows.take i)).length ((keyL (rows.take i)).map vB), .ob l (.loop lo2), .ob D (.deferred (some [])), .bx b3 41 (vVal rows[i]).cells] V3 := hS3
    have hRi := hr _ (List.getElem_mem hi)
    refine xLdB41 hS3 5 rfl rfl (kCall_i (Tryd.call42 _ _) (check57 rows[i] _ _ fun V4 hB4 => ?_))
    have hS := hS3.bel hB4
    refine kEq_int (kCall_i (Tryd.call31 _ _) (must44 _ _ _ _ (fun hok => ?_) (fun hbad => ?_)))
    · have hok : checkE rows[i] = 0 := by simpa using hok
      have hf := fine_of hok hRi
      have hkind := hf.kind
      have hlenT := keyL_len hc
      have htl : (rows.take i).length ≤ 1000 := by simp; omega
      have hlv := keyV_len rows[i] (checkE_size hok)
      have hlv : (keyT rows[i]).length ≤ 2003 := by unfold keyV at hlv; simp at hlv; omega
      have ek : Value.int .u8 (IntKind.u8.wrap rows[i].1) = vB rows[i].1.toNat := by
        have : IntKind.u8.wrap rows[i].1 = (rows[i].1.toNat : Int) := by simp [IntKind.wrap, IntKind.bits, IntKind.signed]; omega
        rw [this]; rfl
      refine kDrawn_i (kDrawn_i (kLd hS 0 rfl rfl rfl (xFa41_0 (kLd hS 5 rfl rfl rfl (kConv_int (c := cQ Tryd.prog) (q' := .u8) (by rw [show (cQ Tryd.prog).P.underlying 39 = _ from Tryd.underlying39]; rfl) Tryd.underlying5 ?_)))))
      rw [ek]
      refine xFa41_0 (kLd hS 5 rfl rfl rfl (xLdB41 hS 5 rfl rfl (kDrew_st hS fun V hS => ?_)))
      refine kBuildS_st (xE25 V) hS [vB rows[i].1.toNat] rfl rfl (by omega) (by omega) (by simp [vB_size]) fun y V hS => ?_
      refine kLd hS 0 rfl rfl rfl (kSame_i (xFa41_0 (kSame_i (kLd hS 5 rfl rfl rfl (kSame_i (xLdB41 hS 5 rfl rfl (kSame_i (kDrew_st hS fun V hS => ?_))))))))
      refine kAppRow_st (xE25 V) hS 2 6 rfl rfl (by simp [flat, vB, Value.cells, Value.oneCell']) (by simp only [maxLen]; omega) (by omega) fun x1 V hS => ?_
      have hS := hS.take 6
      have hS : St w [.bx b2 25 #[x], .bx bv 22 #[.slice lo rows.length lc], .row x1 5 1 ((keyL (rows.take i)).length + 1) ((keyL (rows.take i)).map vB ++ flat [vB rows[i].1.toNat]), .ob l (.loop lo2), .ob D (.deferred (some [])), .bx b3 41 (vVal rows[i]).cells] V := hS
      refine xFa41_0 (kSame_i (kLd hS 5 rfl rfl rfl (kSame_i (xLdB41 hS 5 rfl rfl (kSame_i (kDrew_st hS fun V hS => kCall_i (Tryd.call43 _ _) (laid43 _ _ fun mb V5 hB5 hmb hmap => ?_)))))))
      have hS := hS.bel hB5
      obtain ⟨j, hj⟩ := laid_find rows[i].1 hkind.1 hkind.2
      refine xFa41_0 (kSame_i (kLd hS 5 rfl rfl rfl (kSame_i (xLdB41 hS 5 rfl rfl (kSame_i (kLook_map (c := cQ Tryd.prog) hmap Tryd.underlying99 Tryd.underlying39 rfl hj (kDrew_st hS fun V hS => ?_)))))))
      have hlc := lay_call rows[i] hok hRi V (hG.below hS.below)
      refine kCallV_i ((hlc (fun _ _ => True) (fun _ _ _ _ => trivial)).1 _ _) ((hlc _ fun y2 V hB2 hsrc => ?_).2)
      have hS := hS.bel hB2
      refine ⟨fun mm => ?_⟩
      refine kAppSrc_st (xE25 w) (hS.drewN mm) 2 rfl (hsrc.drewN mm) (m := (keyT rows[i]).length) (by simp) (by simp [vB, Value.cells, Value.oneCell']) (by simp only [maxLen]; omega) (by omega) fun x2 V hS => kDrew_st hS fun V hS => ?_
      have eL : (keyL (rows.take i)).map vB ++ flat [vB rows[i].1.toNat] ++ ((keyT rows[i]).map vB).flatMap (·.cells.toList) = (keyL (rows.take (i + 1))).map vB := by
        rw [List.take_succ_eq_append_getElem hi, keyL_snoc, flat_vB]
        simp [flat, vB, Value.cells]
      have eN : (keyL (rows.take i)).length + 1 + (keyT rows[i]).length = (keyL (rows.take (i + 1))).length := by
        rw [List.take_succ_eq_append_getElem hi, keyL_snoc]; simp; omega
      have hS : St w [.bx b2 25 #[x], .bx bv 22 #[.slice lo rows.length lc], .row x2 5 1 (keyL (rows.take (i + 1))).length ((keyL (rows.take (i + 1))).map vB), .ob l (.loop lo2), .ob D (.deferred (some [])), .bx b3 41 (vVal rows[i]).cells] V := by
        rw [← eL, ← eN]; exact hS
      have hrow : V.ownsRow w.heap.size 5 1 x2 _ _ := hS.get 2 rfl
      refine kSt hS 0 rfl (by simp) (own_cells hrow).1 (own_cells hrow).2 rfl fun V hS => ?_
      refine rndEnd_cl (L' := [.bx b2 25 #[x2], .bx bv 22 #[.slice lo rows.length lc], .row x2 5 1 (keyL (rows.take (i + 1))).length ((keyL (rows.take (i + 1))).map vB)]) (N := [.bx b3 41 (vVal rows[i]).cells]) hV hS fun hV' => ⟨_, ⟨x2, rfl, fun r hr => ?_⟩, hV'⟩
      rw [List.take_succ_eq_append_getElem hi] at hr
      rcases List.mem_append.1 hr with hr | hr
      · exact hc r hr
      · simp at hr; subst hr; exact hok
    · have hbad : checkE rows[i] ≠ 0 := by simpa using hbad
      have hbe := badE_take hi hc hbad
      refine rndEnd_cl (L' := []) (N := [.bx b3 41 (vVal rows[i]).cells]) hV ?_ fun hV' => ⟨[], ⟨by rw [hbe], rfl, by rw [hbe]; exact hbad⟩, hV'⟩
      exact hS.sub (L' := [] ++ lpD l lo2 D ++ [.bx b3 41 (vVal rows[i]).cells]) (List.Sublist.cons _ (List.Sublist.cons _ (List.Sublist.cons _ (List.Sublist.refl _))))
  · rintro D V L ⟨x, rfl, hc⟩ hV
    rw [List.take_length] at hc hV
    have hbe := badE_all hc
    have hrow : V.ownsRow w.heap.size 5 1 x _ _ := hV.get 2 rfl
    obtain ⟨a, cp, rfl, _⟩ := Bs.of_owns hrow
    refine kLd hV 0 rfl rfl rfl (xLen25 (kBin_leq (kCall_i (Tryd.call31 _ _) (must44 _ _ _ _ (fun hok => ?_) (fun hbad => ?_)))))
    · have he : kErr rows = 0 := by
        have : (keyL rows).length ≤ 80 := by simp at hok; omega
        unfold kErr; rw [if_neg (by omega), if_pos this]
      refine kLd hV 0 rfl rfl rfl (kSt hV 0 rfl (by simp) rfl rfl rfl fun V hV => ?_)
      have hV : St w ([.bx b2 25 #[.slice a (keyL rows).length cp], .bx bv 22 #[.slice lo rows.length lc], .row (.slice a (keyL rows).length cp) 5 1 (keyL rows).length ((keyL rows).map vB)] ++ [.ob D (.deferred (some []))]) V := hV
      refine Lv_m hV fun V' hV' => RetK_cell rfl (hV'.cell 0 rfl 0 rfl) ?_
      exact h0 he _ _ hV'.below (hV'.get 2 rfl)
    · have he : kErr rows = 3 := by
        have : ¬ (keyL rows).length ≤ 80 := by simp at hbad; omega
        unfold kErr; rw [if_neg (by omega), if_neg this]
      refine Lv_mp hV fun V' hV' => ?_
      have := h1 (by omega) V' hV'.below
      rwa [he] at this
  · rintro D V L ⟨he, _⟩; cases he
  · rintro id D V L ⟨he, _⟩; cases he
  · rintro ch D V L ⟨he, rfl, hn⟩ hV
    cases he
    have heE : kErr rows = badE rows := by unfold kErr; rw [if_pos hn]
    refine Lv_mp hV fun V' hV' => ?_
    have := h1 (by rw [heE]; exact hn) V' hV'.below
    rwa [heE] at this
end Go.L
namespace Go.L
open Go Go.RowKit Go.Proofs
set_option linter.unusedSimpArgs false
set_option linter.unusedVariables false

theorem Encode8 (rows : List AV) (w : World) (hG : Glob w) (lo : Option Addr) (lc : Nat) (hl : Sl w lo 3 (rows.map vVal)) (hr : ∀ r ∈ rows, Rng r) (hb : rows.length ≤ 1000) (R : Ending → World → Prop)
    (h0 : kErr rows = 0 → ∀ x W, Below w.heap.size w W → W.ownsRow w.heap.size 5 1 x (keyL rows).length ((keyL rows).map vB) → R (.returned (.tuple #[x, .int .i64 0])) W)
    (h1 : kErr rows ≠ 0 → ∀ W, Below w.heap.size w W → R (.returned (.tuple #[.slice none 0 0, .int .i64 (kErr rows)])) W) : Calls Tryd.prog 8 #[.slice lo rows.length lc] w R := by
  refine c8 _ _ _ _ _ ?_
  unfold vc8
  refine kAlloc_st Tryd.zeroValue25 (St.start w) fun b2 W hS => kAlloc_st Tryd.zeroValue26 hS fun b3 W hS => ?_
  refine kCall_i (Tryd.call24 _ _) (encoded24 rows W (hG.below hS.below) lo lc (hl.below hS.below) hr hb _ (fun he x W' hB ho => ?_) (fun he W' hB => ?_))
  · have hS := hS.made hB ho
    have hrow : W'.ownsRow w.heap.size 5 1 x _ _ := hS.get 2 rfl
    refine kSt hS 0 rfl (by simp [Value.cells]) (own_cells hrow).1 (own_cells hrow).2 rfl fun W hS => kSt hS 1 rfl (by simp [Value.cells]) rfl rfl rfl fun W hS => Lv_ret39 (RetK_cell2 rfl rfl (hS.cell 0 rfl 0 rfl) (hS.cell 1 rfl 0 rfl) ?_)
    exact h0 he x _ hS.below (hS.get 2 rfl)
  · have hS := hS.bel hB
    refine Lv_pan39 hS 1 rfl (fun W => St w [Own.bx b2 25 #[.slice none 0 0], Own.bx b3 26 #[.int .i64 (kErr rows)]] W) Tryd.call23 (fun W hS => ?_) (fun W hS => RetK_cell2 rfl rfl (hS.cell 0 rfl 0 rfl) (hS.cell 1 rfl 0 rfl) (h1 he _ hS.below))
    refine c23 _ _ _ ?_
    unfold vc23
    exact kSt hS 0 rfl (by simp [Value.cells]) rfl rfl rfl fun W hS => ⟨rfl, hS⟩
theorem Behind9 (rows : List AV) (w : World) (hG : Glob w) (lo : Option Addr) (lc : Nat) (hl : Sl w lo 3 (rows.map vVal)) (hr : ∀ r ∈ rows, Rng r) (hb : rows.length ≤ 1000) (R : Ending → World → Prop)
    (h0 : kErr rows = 0 → ∀ x W, Below w.heap.size w W → W.ownsRow w.heap.size 5 1 x (keyL rows ++ [255]).length ((keyL rows ++ [255]).map vB) → R (.returned (.tuple #[x, .int .i64 0])) W)
    (h1 : kErr rows ≠ 0 → ∀ W, Below w.heap.size w W → R (.returned (.tuple #[.slice none 0 0, .int .i64 (kErr rows)])) W) : Calls Tryd.prog 9 #[.slice lo rows.length lc] w R := by
  refine c9 _ _ _ _ _ ?_
  unfold vc9
  refine kAlloc_st Tryd.zeroValue25 (St.start w) fun b2 W hS => kAlloc_st Tryd.zeroValue26 hS fun b3 W hS => ?_
  refine kCall_i (Tryd.call24 _ _) (encoded24 rows W (hG.below hS.below) lo lc (hl.below hS.below) hr hb _ (fun he x W' hB ho => ?_) (fun he W' hB => ?_))
  · have hS := hS.made hB ho
    have hlen : (keyL rows).length ≤ 80 := by
      have := he
      unfold kErr at this
      split at this
      · omega
      · split at this
        · assumption
        · omega
    refine kApp1_st (xE25 W') hS 2 rfl (v := vB 255) rfl (by simp [vB, Value.cells, Value.oneCell']) (by simp only [maxLen]; omega) (by omega) fun x' W hS => ?_
    have hS : St w [.bx b2 25 #[.slice none 0 0], .bx b3 26 #[.int .i64 0], .row x' 5 1 (keyL rows ++ [255]).length ((keyL rows ++ [255]).map vB)] W := by
      have e : (keyL rows ++ [255]).map vB = (keyL rows).map vB ++ (vB 255).cells.toList := by simp [vB, Value.cells]
      rw [e, List.length_append]; exact hS
    have hrow : W.ownsRow w.heap.size 5 1 x' _ _ := hS.get 2 rfl
    refine kSt hS 0 rfl (by simp [Value.cells]) (own_cells hrow).1 (own_cells hrow).2 rfl fun W hS => kSt hS 1 rfl (by simp [Value.cells]) rfl rfl rfl fun W hS => Lv_ret39 (RetK_cell2 rfl rfl (hS.cell 0 rfl 0 rfl) (hS.cell 1 rfl 0 rfl) ?_)
    exact h0 he x' _ hS.below (hS.get 2 rfl)
  · have hS := hS.bel hB
    refine Lv_pan39 hS 1 rfl (fun W => St w [Own.bx b2 25 #[.slice none 0 0], Own.bx b3 26 #[.int .i64 (kErr rows)]] W) Tryd.call25 (fun W hS => ?_) (fun W hS => RetK_cell2 rfl rfl (hS.cell 0 rfl 0 rfl) (hS.cell 1 rfl 0 rfl) (h1 he _ hS.below))
    refine c25 _ _ _ ?_
    unfold vc25
    exact kSt hS 0 rfl (by simp [Value.cells]) rfl rfl rfl fun W hS => ⟨rfl, hS⟩
abbrev zz : AV := (0, 0, ⟨#[]⟩)
theorem kl1 : keyL [zz, ofT 1] = [0, 1, 1] := by decide
theorem kl2 : keyL [iv (-1)] = [2, 127, 255, 255, 255, 255, 255, 255, 255] := by decide
theorem kl3 : keyL [(3, 0, ⟨#[97, 0]⟩)] = [3, 97, 0, 255, 0, 1] := by
  simp [keyL, keyV, keyT, byN_bl, bl, escT]
theorem kl5 : keyL [zz] = [0] := by decide
theorem ke (rows : List AV) (h : badE rows = 0) (h2 : (keyL rows).length ≤ 80) : kErr rows = 0 := by unfold kErr; rw [if_neg (by omega), if_pos h2]
theorem dk4 : decK [3, 97] = none := by
  have : readK [3, 97] = none := by rfl
  rw [decK_none this]; rfl
theorem owns_bs {w0 W : World} {L : List Own} (hS : St w0 L W) (i : Nat) {x : Value} {bs : List Nat} (hi : L[i]? = some (.row x 5 1 bs.length (bs.map vB))) : ∃ a cp, x = .slice a bs.length cp ∧ Bs W a bs.length cp bs := Bs.of_owns (hS.get i hi)
theorem kord : ordL [iv 1] [iv 1, zz] = -1 := by
  unfold ordL
  rw [(ordV_zero _ _).2 rfl]
  rfl
theorem kworks7 (w : World) (hG : Glob w) (R : Ending → World → Prop) (h : ∀ W, Below w.heap.size w W → R (.returned (.bool true)) W) : Calls Tryd.prog 7 #[] w R := by
  refine c7 _ _ ?_
  unfold vc7
  refine kAlloc_st Tryd.zeroValue41 (St.start w) fun b1 W hS => ?_
  have hS : St w [.bx b1 41 (vVal zz).cells] W := hS
  refine kDrawn_i (kDrawn_i (xLdB41 hS 0 rfl rfl (kDrew_st hS fun W hS => kCall_i (Tryd.call20 _ _) (Of51 1 _ _ fun W hB => ?_))))
  have hS := hS.bel hB
  refine xLdB41 hS 0 rfl rfl (kSame_i (kDrew_st hS fun W hS => kBS (E22 W) hS [vVal zz, vVal (ofT 1)] rfl rfl (by omega) (by omega) (by intro v hv; simp at hv; rcases hv with rfl | rfl <;> rfl) fun s1 c1 W hS _ => kDrew_st hS fun W hS => ?_))
  have hsl : ∀ {L : List Own} {W : World} {x : Option Addr} {cp n : Nat} {l : List AV}, St w (L ++ [.row (.slice x n cp) 41 3 n (flat (l.map vVal))]) W → l.length = n → Sl W x 3 (l.map vVal) := by
    intro L W x cp n l hS hn
    exact hS.sl _ at_r (by intro v hv; obtain ⟨r, _, rfl⟩ := List.mem_map.1 hv; rfl) (by simpa using hn)
  refine kCall_i (Tryd.call8 _ _) (Encode8 [zz, ofT 1] W (hG.below hS.below) s1 c1 (hsl (L := [.bx b1 41 (vVal zz).cells]) (l := [zz, ofT 1]) hS rfl) (by intro r hr; simp at hr; rcases hr with rfl | rfl <;> exact ⟨by decide, by decide⟩) (by simp) _ (fun _ x1 W hB ho => ?_) (fun he => absurd (ke _ (by decide +kernel) (by rw [kl1]; simp)) he))
  rw [kl1] at ho
  have hS := (hS.init (L := [.bx b1 41 (vVal zz).cells])).made hB ho
  refine kExt_0 (kExt_1 (kDrew_st hS fun W hS => ?_))
  refine kCall_i (Tryd.call21 _ _) (of27 (-1) _ _ fun W hB => ?_)
  refine kBS (E22 W) (hS.bel hB) [vVal (iv (-1))] rfl rfl (by omega) (by omega) (by simp [vVal_size]) fun s2 c2 W hS _ => ?_
  refine kCall_i (Tryd.call8 _ _) (Encode8 [iv (-1)] W (hG.below hS.below) s2 c2 (hsl (l := [iv (-1)]) hS rfl) (by intro r hr; simp at hr; subst hr; exact ⟨by decide, by decide⟩) (by simp) _ (fun _ x2 W hB ho => ?_) (fun he => absurd (ke _ (by decide +kernel) (by rw [kl2]; simp)) he))
  rw [kl2] at ho
  have hS := hS.init.made hB ho
  refine kExt_0 (kExt_1 (kBuild_i (cs := (vVal (3, 0, ⟨#[97, 0]⟩)).cells) (by kernel_rfl) ?_))
  refine kBS (E22 W) hS [vVal (3, 0, ⟨#[97, 0]⟩)] rfl rfl (by omega) (by omega) (by simp [vVal_size]) fun s3 c3 W hS _ => ?_
  refine kCall_i (Tryd.call8 _ _) (Encode8 [(3, 0, ⟨#[97, 0]⟩)] W (hG.below hS.below) s3 c3 (hsl (l := [(3, 0, ⟨#[97, 0]⟩)]) hS rfl) (by intro r hr; simp at hr; subst hr; exact ⟨by decide, by decide⟩) (by simp) _ (fun _ x3 W hB ho => ?_) (fun he => absurd (ke _ (by decide +kernel) (by rw [kl3]; simp)) he))
  rw [kl3] at ho
  have hS := hS.init.made hB ho
  refine kExt_0 (kExt_1 ?_)
  refine kBS (xE25 W) hS [vB 3, vB 97] rfl rfl (by omega) (by omega) (by simp [vB_size]) fun s4 c4 W hS hs4 => ?_
  have hc4 : 2 ≤ c4 ∧ c4 ≤ 9223372036854775807 := by
    obtain ⟨_, hx2⟩ := hS.get _ at_r
    rcases hx2 with ⟨q, q2⟩ | ⟨g, cap, cur, q, _, _, q2, q3, _⟩
    · cases q2
    · cases q; exact ⟨q2, by simpa [maxLen] using q3⟩
  refine kCall_i (Tryd.call13 _ _) (Decode13 [3, 97] W s4 2 c4 ⟨hs4, rfl, hc4.1⟩ (by decide) hc4.2 (by omega) _ (fun rs hd => by rw [dk4] at hd; cases hd) (fun _ W hB => ?_) (fun rs hd => by rw [dk4] at hd; cases hd))
  have hS := hS.init.bel hB
  refine kExt_0 (kExt_1 (xLdB41 hS 0 rfl rfl ?_))
  refine kBS (E22 W) hS [vVal zz] rfl rfl (by omega) (by omega) (by simp [vVal_size]) fun s5 c5 W hS _ => ?_
  refine kCall_i (Tryd.call9 _ _) (Behind9 [zz] W (hG.below hS.below) s5 c5 (hsl (l := [zz]) hS rfl) (by intro r hr; simp at hr; subst hr; exact ⟨by decide, by decide⟩) (by simp) _ (fun _ x5 W hB ho => ?_) (fun he => absurd (ke _ (by decide +kernel) (by rw [kl5]; simp)) he))
  rw [kl5] at ho
  have hS := hS.init.made hB ho
  have hS : St w [.bx b1 41 (vVal zz).cells, .row x1 5 1 3 ([0, 1, 1].map vB), .row x2 5 1 9 ([2, 127, 255, 255, 255, 255, 255, 255, 255].map vB), .row x3 5 1 6 ([3, 97, 0, 255, 0, 1].map vB), .row x5 5 1 2 ([0, 255].map vB)] W := hS
  refine kExt_0 (kExt_1 (kDrawn_i (kDrawn_i (kJn_inv (fun cs V => cs.getD 45 undef = .bool true ∧ Below w.heap.size w V) ?_ ?_))))
  · rintro cs V ⟨e, hV⟩
    rw [e]; exact h V hV
  intro J hJ
  refine kDrew_st hS fun W hS => ?_
  refine kCall_i (Tryd.call10 _ _) (num25 _ _ _ ?_)
  refine kDrew_st hS fun W hS => ?_
  refine kCall_i (Tryd.call10 _ _) (num25 _ _ _ ?_)
  refine kBin_add ?_
  refine kDrew_st hS fun W hS => ?_
  refine kCall_i (Tryd.call10 _ _) (num25 _ _ _ ?_)
  refine kBin_add ?_
  refine kSame_i ?_
  refine kBin_add ?_
  refine kDrew_st hS fun W hS => ?_
  refine kCall_i (Tryd.call10 _ _) (num25 _ _ _ ?_)
  refine kBin_add ?_
  refine kSame_i ?_
  refine kBin_add ?_
  refine kSame_i ?_
  refine kBin_add ?_
  refine kEq_int (kIf_t ?_)
  obtain ⟨y1, d1, rfl, hb1⟩ := owns_bs (bs := [0, 1, 1]) hS 1 rfl
  obtain ⟨y2, d2, rfl, hb2⟩ := owns_bs (bs := [2, 127, 255, 255, 255, 255, 255, 255, 255]) hS 2 rfl
  obtain ⟨y3, d3, rfl, hb3⟩ := owns_bs (bs := [3, 97, 0, 255, 0, 1]) hS 3 rfl
  obtain ⟨y5, d5, rfl, hb5⟩ := owns_bs (bs := [0, 255]) hS 4 rfl
  refine kCv_str hb1 (kEq_str (kIf_d (fun _ => ?_) (fun q => absurd rfl q)))
  refine kCv_str hb2 (kEq_str (kIf_d (fun _ => ?_) (fun q => absurd rfl q)))
  refine kCv_str hb3 (kEq_str (kIf_d (fun _ => kDrew_st hS fun W hS => ?_) (fun q => absurd rfl q)))
  refine kCall_i (Tryd.call10 _ _) (num25 _ _ _ (kEq_int (kIf_t ?_)))
  obtain ⟨y5', d5', he, hb5⟩ := owns_bs (bs := [0, 255]) hS 4 rfl
  cases he
  refine kCv_str hb5 (kEq_str (kIf_d (fun _ => ?_) (fun q => absurd rfl q)))
  refine xLdB41 hS 0 rfl rfl (kDrew_st hS fun W hS => kCall_i (Tryd.call21 _ _) (of27 1 _ _ fun W hB => ?_))
  have hS := hS.bel hB
  refine xLdB41 hS 0 rfl rfl (kSame_i (kBoth_i (kDrew_st hS fun W hS => ?_) (kDrew_st hS fun W hS => kCall_i (Tryd.call21 _ _) (of27 1 _ _ fun W hB => ?_))))
  · refine kBS (E22 W) hS [vVal (iv 1)] rfl rfl (by omega) (by omega) (by simp [vVal_size]) fun p cp W hS _ => xLdB41 hS 0 rfl rfl (kSame_i (kDrew_st hS fun W hS => kCall_i (Tryd.call21 _ _) (of27 1 _ _ fun W hB => ?_)))
    have hS := hS.bel hB
    refine xLdB41 hS 0 rfl rfl (kSame_i (kDrew_st hS fun W hS => kBS (E22 W) hS [vVal (iv 1), vVal zz] rfl rfl (by omega) (by omega) (by intro v hv; simp at hv; rcases hv with rfl | rfl <;> rfl) fun q cq W hS _ => kDrew_st hS fun W hS => kCall_i (Tryd.call12 _ _) (kOrder12 [iv 1] [iv 1, zz] W p q cp cq (hS.sl _ (at_l at_r) (by intro v hv; simp at hv; subst hv; rfl) rfl) (hS.sl _ at_r (by intro v hv; simp at hv; rcases hv with rfl | rfl <;> rfl) rfl) (by simp) (by simp) _ fun W hB => kEq_int (kDrew_st (hS.bel hB) fun W hS => hJ _ _ ⟨by rw [kord]; rfl, hS.below⟩))))
  · have hS := hS.bel hB
    refine xLdB41 hS 0 rfl rfl (kSame_i (kBoth_i (kDrew_st hS fun W hS => ?_) (kDrew_st hS fun W hS => ?_)))
    · refine kBS (E22 W) hS [vVal (iv 1)] rfl rfl (by omega) (by omega) (by simp [vVal_size]) fun p cp W hS _ => xLdB41 hS 0 rfl rfl (kSame_i (kDrew_st hS fun W hS => kBS (E22 W) hS [vVal (iv 1), vVal zz] rfl rfl (by omega) (by omega) (by intro v hv; simp at hv; rcases hv with rfl | rfl <;> rfl) fun q cq W hS _ => kDrew_st hS fun W hS => kCall_i (Tryd.call12 _ _) (kOrder12 [iv 1] [iv 1, zz] W p q cp cq (hS.sl _ (at_l at_r) (by intro v hv; simp at hv; subst hv; rfl) rfl) (hS.sl _ at_r (by intro v hv; simp at hv; rcases hv with rfl | rfl <;> rfl) rfl) (by simp) (by simp) _ fun W hB => kEq_int (kDrew_st (hS.bel hB) fun W hS => hJ _ _ ⟨by rw [kord]; rfl, hS.below⟩))))
    · refine kBS (E22 W) hS [vVal (iv 1), vVal zz] rfl rfl (by omega) (by omega) (by intro v hv; simp at hv; rcases hv with rfl | rfl <;> rfl) fun q cq W hS _ => kDrew_st hS fun W hS => kBS (E22 W) hS [vVal (iv 1)] rfl rfl (by omega) (by omega) (by simp [vVal_size]) fun p cp W hS _ => kDrew_st hS fun W hS => kCall_i (Tryd.call12 _ _) (kOrder12 [iv 1] [iv 1, zz] W p q cp cq (hS.sl _ at_r (by intro v hv; simp at hv; subst hv; rfl) rfl) (hS.sl _ (at_l at_r) (by intro v hv; simp at hv; rcases hv with rfl | rfl <;> rfl) rfl) (by simp) (by simp) _ fun W hB => kEq_int (kDrew_st (hS.bel hB) fun W hS => hJ _ _ ⟨by rw [kord]; rfl, hS.below⟩))
end Go.L
namespace Go.L
open Go Go.RowKit Go.Proofs
set_option linter.unusedSimpArgs false
set_option linter.unusedVariables false

theorem ordT_S (a b : ByteArray) : ordT a b = ordS a b := by
  unfold ordT ordS
  rw [byN_less]
  by_cases h : lexN (byN a) (byN b) = true
  · simp [h]
  · by_cases e : a = b
    · subst e; simp [lexN_irr]
    · have h' : lexN (byN a) (byN b) = false := by simpa using h
      have : lexN (byN b) (byN a) = true := by
        cases q : lexN (byN b) (byN a) with
        | true => rfl
        | false => exact absurd (byN_inj (lexN_tri h' q)) e
      simp [h', this, e]
theorem ordK_V (a b : AV) : ordK a b = ordV a b := by
  unfold ordK ordV
  rw [ordT_S]; rfl
theorem ordKL_L : ∀ (a b : List AV), ordKL a b = ordL a b
  | [], [] => rfl
  | [], _ :: _ => rfl
  | _ :: _, [] => rfl
  | a :: x, b :: y => by
    show (if ordK a b ≠ 0 then ordK a b else ordKL x y) = (if ordV a b ≠ 0 then ordV a b else ordL x y)
    rw [ordK_V, ordKL_L x y]
def kB (rows : List AV) : List Nat := if kErr rows = 0 then keyL rows else []
theorem EncodeK (rows : List AV) (w : World) (hG : Glob w) (lo : Option Addr) (lc : Nat) (hl : Sl w lo 3 (rows.map vVal)) (hr : ∀ r ∈ rows, Rng r) (hb : rows.length ≤ 1000) (R : Ending → World → Prop)
    (h : ∀ x W, Below w.heap.size w W → W.ownsRow w.heap.size 5 1 x (kB rows).length ((kB rows).map vB) → R (.returned (.tuple #[x, .int .i64 (kErr rows)])) W) : Calls Tryd.prog 8 #[.slice lo rows.length lc] w R := by
  refine Encode8 rows w hG lo lc hl hr hb R (fun he x W hB ho => ?_) (fun he W hB => ?_)
  · have := h x W hB (by unfold kB; rw [if_pos he]; exact ho)
    rwa [he] at this
  · exact h _ W hB (by unfold kB; rw [if_neg he]; exact World.ownsRow_nil _ _ _ _)
def kZ (rows : List AV) : List Nat := if kErr rows = 0 then keyL rows ++ [255] else []
theorem BehindK (rows : List AV) (w : World) (hG : Glob w) (lo : Option Addr) (lc : Nat) (hl : Sl w lo 3 (rows.map vVal)) (hr : ∀ r ∈ rows, Rng r) (hb : rows.length ≤ 1000) (R : Ending → World → Prop)
    (h : ∀ x W, Below w.heap.size w W → W.ownsRow w.heap.size 5 1 x (kZ rows).length ((kZ rows).map vB) → R (.returned (.tuple #[x, .int .i64 (kErr rows)])) W) : Calls Tryd.prog 9 #[.slice lo rows.length lc] w R := by
  refine Behind9 rows w hG lo lc hl hr hb R (fun he x W hB ho => ?_) (fun he W hB => ?_)
  · have := h x W hB (by unfold kZ; rw [if_pos he]; exact ho)
    rwa [he] at this
  · exact h _ W hB (by unfold kZ; rw [if_neg he]; exact World.ownsRow_nil _ _ _ _)
theorem checkE_rng (r : AV) : 0 ≤ checkE r ∧ checkE r ≤ 3 := by
  unfold checkE; repeat' split
  all_goals omega
theorem badE_rng : ∀ rows : List AV, 0 ≤ badE rows ∧ badE rows ≤ 3
  | [] => by simp [badE]
  | r :: rows => by
    have h1 := checkE_rng r
    have h2 := badE_rng rows
    unfold badE; split <;> omega
theorem kErr_rng (rows : List AV) : 0 ≤ kErr rows ∧ kErr rows ≤ 3 := by
  have := badE_rng rows
  unfold kErr; repeat' split
  all_goals omega
theorem badE_zero : ∀ {rows : List AV}, badE rows = 0 → ∀ r ∈ rows, checkE r = 0
  | [], _, r, hr => by cases hr
  | a :: rows, h, r, hr => by
    unfold badE at h
    split at h
    · contradiction
    · rename_i ha
      rcases List.mem_cons.1 hr with rfl | hr
      · omega
      · exact badE_zero h r hr
theorem kErr_fine {rows : List AV} (h : kErr rows = 0) (hr : ∀ r ∈ rows, Rng r) : ∀ r ∈ rows, Fine r := by
  have hb : badE rows = 0 := by
    unfold kErr at h
    split at h
    · omega
    · omega
  exact fun r hm => fine_of (badE_zero hb r hm) (hr r hm)
theorem escT_256 : ∀ {l : List Nat}, (∀ b ∈ l, b < 256) → ∀ b ∈ escT l, b < 256
  | [], _, b, hb => by simp [escT] at hb; omega
  | c :: l, h, b, hb => by
    have ih := escT_256 (l := l) (fun b hb => h b (List.mem_cons_of_mem _ hb))
    have hc := h c (List.mem_cons_self ..)
    unfold escT at hb
    split at hb
    · simp at hb; rcases hb with rfl | rfl | hb
      · omega
      · omega
      · exact ih b hb
    · rcases List.mem_cons.1 hb with rfl | hb
      · exact hc
      · exact ih b hb
theorem beN_256 : ∀ {k n : Nat}, n < 256 ^ k → ∀ b ∈ beN k n, b < 256
  | 0, n, _, b, hb => by simp [beN] at hb
  | k + 1, n, h, b, hb => by
    unfold beN at hb
    rcases List.mem_cons.1 hb with rfl | hb
    · rw [Nat.div_lt_iff_lt_mul (Nat.pow_pos (by omega)), Nat.mul_comm, ← Nat.pow_succ]; exact h
    · exact beN_256 (Nat.mod_lt _ (Nat.pow_pos (by omega))) b hb
theorem keyL_256 {rows : List AV} (h : ∀ r ∈ rows, Fine r) : ∀ b ∈ keyL rows, b < 256 := by
  intro b hb
  obtain ⟨r, hr, hb⟩ := List.mem_flatMap.1 hb
  have hf := h r hr
  have hk := hf.kind
  have hrg := hf.rng
  unfold keyV keyT at hb
  rcases List.mem_cons.1 hb with rfl | hb
  · omega
  · split at hb
    · rename_i h1
      have := hf.bool h1
      simp at hb; omega
    · split at hb
      · exact beN_256 (show _ < 18446744073709551616 by omega) b hb
      · split at hb
        · exact escT_256 (by rw [byN_bl]; exact bl_256 _) b hb
        · cases hb
theorem less_mkS {x y : List Nat} (hx : ∀ b ∈ x, b < 256) (hy : ∀ b ∈ y, b < 256) : Op.bytesLess (mkS x).toList (mkS y).toList = lexN x y := by
  rw [byN_less, byN_bl, byN_bl, bl_mkS hx, bl_mkS hy]
theorem mkS_inj {x y : List Nat} (hx : ∀ b ∈ x, b < 256) (hy : ∀ b ∈ y, b < 256) : mkS x = mkS y ↔ x = y := by
  constructor
  · intro h; rw [← bl_mkS hx, h, bl_mkS hy]
  · intro h; rw [h]
theorem Sl.take {w : World} {a : Option Addr} {sz : Nat} {vs : List Value} (h : Sl w a sz vs) (n : Nat) : Sl w a sz (vs.take n) := by
  refine ⟨fun v hv => h.each v (List.mem_of_mem_take hv), ?_⟩
  rcases h.at_ with rfl | ⟨b, o, rfl, hb, hr⟩
  · left; simp
  · right
    refine ⟨b, o, rfl, hb, fun j v hj => hr j v ?_⟩
    rw [← List.take_append_drop n vs, List.flatMap_append]
    rw [List.getElem?_append_left (List.getElem?_eq_some_iff.1 hj).1]; exact hj
theorem KeyHolds3 (a b : List AV) (w : World) (hG : Glob w) (ao bo : Option Addr) (ac bc : Nat) (ha : Sl w ao 3 (a.map vVal)) (hb : Sl w bo 3 (b.map vVal)) (hac : a.length ≤ ac) (hbc : b.length ≤ bc) (hac' : ac ≤ 9223372036854775807) (hbc' : bc ≤ 9223372036854775807) (hra : ∀ r ∈ a, Rng r) (hrb : ∀ r ∈ b, Rng r) (R : Ending → World → Prop)
    (h : ∀ W, Below w.heap.size w W → R (.returned (.bool true)) W) : Calls Tryd.prog 3 #[.slice ao a.length ac, .slice bo b.length bc] w R := by
  refine c3 _ _ _ _ _ _ _ _ ?_
  unfold vc3
  have fin : ∀ V, Below w.heap.size w V → kCall (cR Tryd.prog R) V 7 #[] fun v15 w_3 => R (.returned v15) w_3 := fun V hV => kCall_i (Tryd.call7 _ _) (kworks7 _ (hG.below hV) _ fun W hB => h W ((St.start w).bel hV |>.bel hB).below)
  refine kJn_inv (fun cs V => V = w ∧ a.length ≤ 8 ∧ b.length ≤ 8) ?_ ?_
  rotate_left
  · intro J hJ
    refine kCall_i (Tryd.call6 _ _) (few6 a w ao ac ha (by omega) _ (kUn_not (kIf_b (fun q => kIf_t (fin _ (Below.refl _ _))) (fun q => ?_))))
    refine kCall_i (Tryd.call6 _ _) (few6 b w bo bc hb (by omega) _ (kUn_not (kIf_b (fun q2 => fin _ (Below.refl _ _)) (fun q2 => kD_i (hJ _ _ ⟨rfl, ?_, ?_⟩)))))
    · simp at q; exact q.1
    · simp at q2; exact q2.1
  rintro cs V ⟨rfl, ha8, hb8⟩ ds
  refine kCall_i (Tryd.call8 _ _) (EncodeK a V hG ao ac ha hra (by omega) _ fun x W hB ho => kExt_0 (kExt_1 ?_))
  have hS := (St.start V).made hB ho
  refine kCall_i (Tryd.call8 _ _) (EncodeK b W (hG.below hS.below) bo bc (hb.below hS.below) hrb (by omega) _ fun y W hB ho => kExt_0 (kExt_1 ?_))
  have hS := hS.made hB ho
  refine kCall_i (Tryd.call9 _ _) (BehindK a W (hG.below hS.below) ao ac (ha.below hS.below) hra (by omega) _ fun z W hB ho => kExt_0 (kExt_1 ?_))
  have hS := hS.made hB ho
  have hS : St V [.row x 5 1 (kB a).length ((kB a).map vB), .row y 5 1 (kB b).length ((kB b).map vB), .row z 5 1 (kZ a).length ((kZ a).map vB)] W := hS
  have ra := kErr_rng a
  have rb := kErr_rng b
  refine kCall_i (Tryd.call10 _ _) (num25 _ _ _ ?_)
  refine kCall_i (Tryd.call10 _ _) (num25 _ _ _ ?_)
  refine kBin_add ?_
  rw [wrap_id (by omega) (by omega)]
  refine kCall_i (Tryd.call10 _ _) (num25 _ _ _ ?_)
  refine kBin_add ?_
  rw [wrap_id (by omega) (by omega)]
  refine kNe_int (kIf_ne (fun _ => fin _ hS.below) (fun e => ?_))
  have ea : kErr a = 0 := by omega
  have eb : kErr b = 0 := by omega
  have fa := kErr_fine ea hra
  have fb := kErr_fine eb hrb
  have b1 := keyL_256 fa
  have b2 := keyL_256 fb
  have b3 : ∀ b ∈ keyL a ++ [255], b < 256 := by
    intro b hb
    rcases List.mem_append.1 hb with hb | hb
    · exact b1 b hb
    · simp at hb; omega
  rw [show kB a = keyL a from if_pos ea, show kB b = keyL b from if_pos eb, show kZ a = keyL a ++ [255] from if_pos ea] at hS
  obtain ⟨x1, x2, rfl, hx⟩ := owns_bs hS 0 rfl
  obtain ⟨y1, y2, rfl, hy⟩ := owns_bs hS 1 rfl
  obtain ⟨z1, z2, rfl, hz⟩ := owns_bs hS 2 rfl
  have hN : ordL a b = if lexN (keyL a) (keyL b) then -1 else if lexN (keyL b) (keyL a) then 1 else 0 := by rw [← ordKL_L]; exact keyL_ord fa fb
  refine kJn_inv (fun cs V' => V' = W ∧ cs = [.int .i64 (if lexN (keyL a) (keyL b) then -1 else 0)]) ?_ ?_
  rotate_left
  · intro J hJ
    refine kCv_str hx (kCv_str hy (kLss_str ?_))
    rw [less_mkS b1 b2]
    exact kIf_b (fun q => kD_i (hJ _ _ ⟨rfl, by rw [if_pos q]⟩)) (fun q => kD_i (hJ _ _ ⟨rfl, by rw [if_neg (by simp [q])]⟩))
  rintro cs V' ⟨rfl, rfl⟩ ds1
  try dsimp only [List.getD_cons_zero]
  refine kJn_inv (fun cs V'' => V'' = V' ∧ cs = [.int .i64 (ordL a b)]) ?_ ?_
  rotate_left
  · intro J hJ
    refine kCv_str hx (kCv_str hy (kGtr_str ?_))
    rw [less_mkS b1 b2]
    have e2 : (!(lexN (keyL a) (keyL b) || decide (mkS (keyL a) = mkS (keyL b)))) = lexN (keyL b) (keyL a) := by
      by_cases q : lexN (keyL a) (keyL b) = true
      · rw [q, lexN_asymm q]; rfl
      · have q : lexN (keyL a) (keyL b) = false := by simpa using q
        rw [q]
        by_cases q2 : keyL a = keyL b
        · rw [q2, lexN_irr]; simp
        · rw [decide_eq_false (fun e => q2 ((mkS_inj b1 b2).1 e))]
          cases q3 : lexN (keyL b) (keyL a) with
          | true => rfl
          | false => exact absurd (lexN_tri q q3) q2
    rw [e2]
    refine kIf_b (fun q => kD_i (hJ _ _ ⟨rfl, ?_⟩)) (fun q => kD_i (hJ _ _ ⟨rfl, ?_⟩))
    · rw [hN, if_neg (by rw [lexN_asymm q]; simp), if_pos q]
    · rw [hN]; simp [q]
  rintro cs V'' ⟨rfl, rfl⟩ ds2
  try dsimp only [List.getD_cons_zero]
  refine kJn_inv (fun cs V3 => Below V''.heap.size V'' V3 ∧ cs = [.bool (decide (a.length ≤ b.length ∧ b.take a.length = a))]) ?_ ?_
  rotate_left
  · intro J hJ
    refine xLen22 (xLen22 (kBin_geq (kIf_d (fun q => ?_) (fun q => kD_i (hJ _ _ ⟨Below.refl _ _, ?_⟩)))))
    · refine xLen22 (xSl22_h (by omega) ?_)
      have hlt : (b.take a.length).length = a.length := by simp; omega
      have hsl : Sl V'' (if bc = 0 then bo else bo.map (·.add (0 * 3))) 3 ((b.take a.length).map vVal) := by
        have e1 : (if bc = 0 then bo else bo.map (·.add (0 * 3))) = bo := by
          split
          · rfl
          · cases bo <;> simp [Addr.add]
        rw [e1, List.map_take]
        exact (hb.below hS.below).take _
      have := same35 (b.take a.length) a V'' (if bc = 0 then bo else bo.map (·.add (0 * 3))) ao bc ac hsl (ha.below hS.below) (by omega) (by omega)
      rw [hlt] at this
      refine kCall_i (Tryd.call11 _ _) (this _ fun W hB => kD_i (hJ _ _ ⟨hB, ?_⟩))
      congr 2
      rw [decide_eq_decide]
      constructor
      · intro e; exact ⟨by omega, e⟩
      · intro e; exact e.2
    · rw [decide_eq_false (fun e => q (by omega))]
  rintro cs V3 ⟨hB3, rfl⟩ ds3
  try dsimp only [List.getD_cons_zero]
  have hS3 := hS.bel hB3
  obtain ⟨y1', y2', he, hy⟩ := owns_bs hS3 1 rfl
  cases he
  refine kCall_i (Tryd.call12 _ _) (kOrder12 a b V3 ao bo ac bc (ha.below hS3.below) (hb.below hS3.below) (by omega) (by omega) _ fun W hB => kEq_int (kIf_eq (fun _ => ?_) (fun q => absurd rfl q)))
  have hS3 := hS3.bel hB
  refine kCall_i (Tryd.call12 _ _) (kOrder12 b a W bo ao bc ac (hb.below hS3.below) (ha.below hS3.below) (by omega) (by omega) _ fun W hB => kNeg ?_)
  have hS3 := hS3.bel hB
  have hsw : ordL b a = -ordL a b := by rw [← ordKL_L, ← ordKL_L]; exact ordKL_swap a b
  have hv := ordKL_vals a b
  rw [ordKL_L] at hv
  rw [wrap_id (by omega) (by omega)]
  refine kEq_int (kIf_eq (fun _ => ?_) (fun q => absurd hsw q))
  obtain ⟨y1', y2', he, hy⟩ := owns_bs hS3 1 rfl
  cases he
  obtain ⟨z1', z2', he, hz⟩ := owns_bs hS3 2 rfl
  cases he
  refine kCv_str hy (kCv_str hz (kLss_str ?_))
  rw [less_mkS b2 b3, keyL_behind fa fb, ordKL_L, ordKL_L]
  have eo : ∀ p q : List AV, ordL p q = 0 ↔ p = q := ordL_zero
  refine kBin_gtr (kIf_d (fun q => kEq_b4 (kIf_b (fun _ => fin _ hS3.below) (fun q2 => ?_))) (fun q => kEq_b4 (kIf_b (fun _ => fin _ hS3.below) (fun q2 => ?_))))
  · rw [decide_eq_true q] at q2; simp at q2
  · rw [decide_eq_false q] at q2
    simp only [Bool.false_or, eo] at q2
    simp at q2
end Go.L
namespace Go.L
open Go Go.RowKit Go.Proofs
set_option linter.unusedSimpArgs false
set_option linter.unusedVariables false

theorem refDecode14 (bs : List Nat) (w : World) (a : Option Addr) (n cp : Nat) (hB : Bs w a n cp bs) (hbyte : ∀ b ∈ bs, b < 256) (hsm : n ≤ 1000000) (R : Ending → World → Prop)
    (h0 : ∀ rs, decK bs = some rs → n ≤ 80 → ∀ x W, Below w.heap.size w W → W.ownsRow w.heap.size 41 3 x rs.length (flat (rs.map vVal)) → R (.returned (.tuple #[x, .int .i64 0])) W)
    (h1 : decK bs = none → ∀ W, Below w.heap.size w W → R (.returned (.tuple #[.slice none 0 0, .int .i64 200])) W)
    (h2 : ∀ rs, decK bs = some rs → ¬ n ≤ 80 → ∀ W, Below w.heap.size w W → R (.returned (.tuple #[.slice none 0 0, .int .i64 3])) W) : Calls Tryd.prog 14 #[.slice a n cp] w R := by
  have hlen := hB.len
  refine c14 _ _ _ _ _ ?_
  unfold vc14
  have hS := (St.start w).adopt (o := .row (.slice none 0 0) 41 3 0 []) (World.ownsRow_nil _ _ _ _) (fun p hp => by cases hp)
  refine ⟨⟨fun cs V => ∃ (k : Nat) (rs : List AV) (x : Value), cs = [x, .int .i64 k] ∧ k ≤ n ∧ rs.length ≤ k ∧ decK bs = (decK (bs.drop k)).map (rs ++ ·) ∧
      St w [.row x 41 3 rs.length (flat (rs.map vVal))] V, fun cs _ => n - (match cs with | [_, .int _ i] => i.toNat | _ => 0),
    ⟨0, [], .slice none 0 0, rfl, Nat.zero_le _, Nat.le_refl _, by simp, hS⟩, ?_⟩⟩
  rintro cs ds V ⟨k, rs, x, rfl, hkn, hrk, heq, hS⟩
  dsimp only [List.getD_cons_zero, List.getD_cons_succ]
  have hBV := hB.keep hS.below
  have hbyte' : ∀ b ∈ bs.drop k, b < 256 := fun b hb => hbyte b (List.mem_of_mem_drop hb)
  refine xLen25 (kBin_lss (kIf_d (fun e => ?_) (fun e => ?_)))
  · refine xSl25_l hkn hB.cap (kCall_i (Tryd.call16 _ _) (Read16 (bs.drop k) V _ _ _ (hBV.drop hkn) hbyte' (by omega) _ (fun r m hr W hW => ?_) (fun hr W hW => ?_)))
    · have hpos := readK_pos hr
      simp only [List.length_drop] at hpos
      refine kExt_0 (kExt_1 (kAlloc_st Tryd.zeroValue41 (hS.bel hW) fun b6 W hS => kStoreAR hS rfl (by simp [Value.oneCell']) Tryd.sizeOf41 fun W hS => kEq_int (kIf_eq (fun q => by omega) (fun _ => ?_))))
      have hS : St w [.row x 41 3 rs.length (flat (rs.map vVal)), .bx b6 41 (vVal r).cells] W := hS
      refine xLdB41 hS 1 rfl rfl (kBuildS_st (E22 w) hS [vVal r] rfl rfl (by omega) (by omega) (by simp [vVal_size]) fun y V hS => ?_)
      refine kAppRow_st (E22 w) hS 0 2 rfl rfl (by
        have : flat [vVal r] = (vVal r).cells.toList := by simp [flat]
        rw [this]; exact vVal_one r) (by simp [maxLen]; omega) (by omega) fun x' V hS => kBin_add ?_
      have hS := hS.take 1
      have hS : St w [.row x' 41 3 (rs.length + 1) (flat (rs.map vVal) ++ flat [vVal r])] V := hS
      have hS : St w [.row x' 41 3 (rs ++ [r]).length (flat ((rs ++ [r]).map vVal))] V := by
        have e : flat ((rs ++ [r]).map vVal) = flat (rs.map vVal) ++ flat [vVal r] := by simp [flat]
        rw [e, List.length_append]; exact hS
      rw [wrap_id (by omega) (by omega)]
      refine kD_i ⟨⟨k + m, rs ++ [r], x', ?_, by omega, by simp; omega, ?_, hS⟩, ?_⟩
      · rw [show ((k : Int) + (m : Nat)) = ((k + m : Nat) : Int) by omega]
      · have := decK_app heq hr
        rwa [List.drop_drop] at this
      · show n - ((k : Int) + (m : Nat)).toNat < n - (k : Int).toNat
        omega
    · refine kExt_0 (kExt_1 (kAlloc_st Tryd.zeroValue41 (hS.bel hW) fun b6 W hS => kStoreAR hS rfl (by simp [Value.oneCell']) Tryd.sizeOf41 fun W hS => kEq_int (kIf_eq (fun _ => ?_) (fun q => absurd rfl q))))
      refine h1 ?_ W hS.below
      rw [heq, decK_none hr, if_neg]
      · rfl
      · intro q
        have := congrArg List.length q
        simp at this; omega
  · have hk : k = n := by omega
    have hd : decK bs = some rs := by
      rw [heq, List.drop_eq_nil_of_le (by omega), decK_none rfl]; simp
    refine xLen25 (kBin_gtr (kIf_d (fun q => h2 rs hd (by omega) V hS.below) (fun q => h0 rs hd (by omega) x V hS.below (hS.get 0 rfl))))
end Go.L
namespace Go.L
open Go Go.RowKit Go.Proofs
set_option linter.unusedSimpArgs false
set_option linter.unusedVariables false

theorem decK_len : ∀ (n : Nat) {bs : List Nat} {rs : List KV}, bs.length ≤ n → decK bs = some rs → rs.length ≤ bs.length
  | n, bs, rs, hn, h => by
    cases hr : readK bs with
    | none =>
      rw [decK_none hr] at h
      split at h
      · cases h; simp
      · cases h
    | some p =>
      obtain ⟨v, m⟩ := p
      have hp := readK_pos hr
      rw [decK_some hr] at h
      cases n with
      | zero => omega
      | succ n =>
        cases hd : decK (bs.drop m) with
        | none => rw [hd] at h; cases h
        | some l =>
          rw [hd] at h
          cases h
          have := decK_len n (bs := bs.drop m) (by simp; omega) hd
          simp at this ⊢; omega
/-- What both Decode tell. -/
def resD (bs : List Nat) : List KV × Int := match decK bs with
  | none => ([], 200)
  | some rs => if bs.length ≤ 80 then (rs, 0) else ([], 3)
theorem resD_len (bs : List Nat) : (resD bs).1.length ≤ bs.length := by
  unfold resD
  split
  · simp
  · rename_i rs h
    have := decK_len _ (Nat.le_refl _) h
    split <;> simp <;> omega
def SlV (W : World) (y : Value) (rs : List KV) : Prop := ∃ a c, y = .slice a rs.length c ∧ Sl W a 3 (rs.map vVal)
theorem Decode13u (bs : List Nat) (w : World) (a : Option Addr) (n cp : Nat) (hB : Bs w a n cp bs) (hbyte : ∀ b ∈ bs, b < 256) (hn : cp ≤ 9223372036854775807) (hsm : n ≤ 1000000) (R : Ending → World → Prop)
    (h : ∀ y W, SlV W y (resD bs).1 → Below w.heap.size w W → R (.returned (.tuple #[y, .int .i64 (resD bs).2])) W) : Calls Tryd.prog 13 #[.slice a n cp] w R := by
  have hl := hB.len
  refine Decode13 bs w a n cp hB hbyte hn hsm R (fun rs hd h80 x W hb ho => ?_) (fun hd W hb => ?_) (fun rs hd h80 W hb => ?_)
  · have e : resD bs = (rs, 0) := by unfold resD; rw [hd]; simp; omega
    have := h x W
    rw [e] at this
    obtain ⟨a, c, he, hs⟩ := Sl.of_owns (flatMap_vVal_size _) ho (by simp)
    exact this ⟨a, c, he, hs⟩ hb
  · have e : resD bs = ([], 200) := by unfold resD; rw [hd]
    have := h (.slice none 0 0) W
    rw [e] at this
    exact this ⟨none, 0, rfl, Sl.nil _ _⟩ hb
  · have e : resD bs = ([], 3) := by unfold resD; rw [hd]; simp; omega
    have := h (.slice none 0 0) W
    rw [e] at this
    exact this ⟨none, 0, rfl, Sl.nil _ _⟩ hb
theorem Decode14u (bs : List Nat) (w : World) (a : Option Addr) (n cp : Nat) (hB : Bs w a n cp bs) (hbyte : ∀ b ∈ bs, b < 256) (hsm : n ≤ 1000000) (R : Ending → World → Prop)
    (h : ∀ y W, SlV W y (resD bs).1 → Below w.heap.size w W → R (.returned (.tuple #[y, .int .i64 (resD bs).2])) W) : Calls Tryd.prog 14 #[.slice a n cp] w R := by
  have hl := hB.len
  refine refDecode14 bs w a n cp hB hbyte hsm R (fun rs hd h80 x W hb ho => ?_) (fun hd W hb => ?_) (fun rs hd h80 W hb => ?_)
  · have e : resD bs = (rs, 0) := by unfold resD; rw [hd]; simp; omega
    have := h x W
    rw [e] at this
    obtain ⟨a, c, he, hs⟩ := Sl.of_owns (flatMap_vVal_size _) ho (by simp)
    exact this ⟨a, c, he, hs⟩ hb
  · have e : resD bs = ([], 200) := by unfold resD; rw [hd]
    have := h (.slice none 0 0) W
    rw [e] at this
    exact this ⟨none, 0, rfl, Sl.nil _ _⟩ hb
  · have e : resD bs = ([], 3) := by unfold resD; rw [hd]; simp; omega
    have := h (.slice none 0 0) W
    rw [e] at this
    exact this ⟨none, 0, rfl, Sl.nil _ _⟩ hb
/-- What a call has made, by the list. -/
theorem Own.rebase {B B' : Nat} {W : World} {o : Own} (h : o.holds B W) (hB : B' ≤ B) : o.holds B' W := by
  cases o with
  | bx b t cs => exact ⟨Nat.le_trans hB h.1, h.2⟩
  | row x e sz n xs => exact ownsRow_rebase h hB
  | ob b o => exact ⟨Nat.le_trans hB h.1, h.2⟩
theorem St.join {w0 w W : World} {L M : List Own} (h : St w0 L w) (k : St w M W) : St w0 (L ++ M) W := by
  have h' := h.bel k.below
  refine St.ofPw h'.below (fun o ho => ?_) (List.pairwise_append.2 ⟨h.pw, k.pw, fun a ha b hb => ?_⟩)
  · rcases List.mem_append.1 ho with ho | ho
    · exact h'.all o ho
    · exact Own.rebase (k.all o ho) h.size
  · cases hab : a.blk with
    | none => exact .inl rfl
    | some i =>
      right
      intro e
      have h1 := (Own.lt (h.all a ha) i hab).2
      have h2 := (Own.lt (k.all b hb) i e.symm).1
      omega
theorem kEq_fn37 {X : Chain → World → Prop} {q : Bool} {w : World} {k : Value → World → Prop} {ox oy : Operand} {f : FuncId} {caps : Array Value} (h : k (.bool false) w) : kEq ⟨Tryd.prog, X, q⟩ w .eql 37 ox oy (.func (.func f) #[] caps) .nilFunc k :=
  ⟨kVal_pure (c := ⟨Tryd.prog, X, q⟩) (v := .bool false) (fun w' => by
    simp only [go_sem]
    show Sem.run Tryd.prog (do pure (.bool (← Op.equal 37 (.func (.func f) #[] caps) .nilFunc)) : Sem Value) w' = _
    have : (Op.equal 37 (.func (.func f) #[] caps) .nilFunc).run Tryd.prog w' = .ok false w' := by
      unfold Op.equal Op.maxDepth Op.equalIn
      simp [run_underlying Tryd.underlying37]
    simp [this]) h⟩
theorem kJnD_inv {f : (List Value → List Deferred → World → Prop) → Prop} {a : List Value → List Deferred → World → Prop} (I : List Value → List Deferred → World → Prop) (ha : ∀ cs d W, I cs d W → a cs d W) (hf : ∀ J, (∀ cs d W, I cs d W → J cs d W) → f J) : kJnD f a := ⟨hf _ ha⟩
theorem own_capmax {W : World} {base : Nat} {e : TypeId} {sz n cp : Nat} {a : Option Addr} {xs : List Value} (h : W.ownsRow base e sz (.slice a n cp) n xs) : cp ≤ maxLen := by
  rcases h.2 with ⟨h, _⟩ | ⟨g, cap, cur, h, _, _, _, hcap, _⟩
  · cases h; simp
  · cases h; exact hcap
theorem posK_ge {bs : List Nat} : ∀ {i : Nat}, i ≤ (eachK bs 0).length → i ≤ posK bs i
  | 0, _ => Nat.zero_le _
  | i + 1, h => by
    have ih := posK_ge (bs := bs) (i := i) (by omega)
    obtain ⟨r, m, hr, _, hp⟩ := eachK_get (bs := bs) (i := i) (by omega)
    have := readK_pos hr
    omega
theorem KeyReads4 (bs : List Nat) (many : Int) (w : World) (hG : Glob w) (a : Option Addr) (cp : Nat) (hB : Bs w a bs.length cp bs) (hbyte : ∀ b ∈ bs, b < 256) (hcp : cp ≤ 9223372036854775807) (R : Ending → World → Prop)
    (h : ∀ W, Below w.heap.size w W → R (.returned (.bool true)) W) : Calls Tryd.prog 4 #[.slice a bs.length cp, .int .i64 many] w R := by
  refine c4 _ _ _ _ _ _ ?_
  unfold vc4
  refine kBox_st (St.start w) fun b2 W hS => kBox_st hS fun b3 W hS => kAlloc_st Tryd.zeroValue4 hS fun b4 W hS => ?_
  have hS : St w [.bx b2 25 #[.slice a bs.length cp], .bx b3 3 #[.int .i64 many], .bx b4 4 #[.bool false]] W := hS
  refine kLd hS 0 rfl rfl rfl (xLen25 (kBin_gtr (kIf_d (fun hbig => ?_) (fun hsm => ?_))))
  · refine kCall_i (Tryd.call7 _ _) (kworks7 W (hG.below hS.below) _ fun W' hBe => ?_)
    have hS := hS.bel hBe
    exact kSt hS 2 rfl (by simp [Value.cells]) rfl rfl rfl fun W hS => RetK_cell rfl (hS.cell 2 rfl 0 rfl) (h _ hS.below)
  refine kLd hS 0 rfl rfl rfl (kCall_i (Tryd.call13 _ _) (Decode13u bs W a _ cp (hB.keep hS.below) hbyte hcp (by omega) _ fun y1 V hy1 hb1 => kExt_0 (kExt_1 ?_)))
  have hS := hS.bel hb1
  refine kLd hS 0 rfl rfl rfl (kCall_i (Tryd.call14 _ _) (Decode14u bs V a _ cp (hB.keep hS.below) hbyte (by omega) _ fun y2 V2 hy2 hb2 => kExt_0 (kExt_1 ?_)))
  obtain ⟨a1, c1, rfl, hs1⟩ := hy1
  obtain ⟨a2, c2, rfl, hs2⟩ := hy2
  have hs1 := hs1.below hb2
  have hS := hS.bel hb2
  refine kLd hS 0 rfl rfl rfl (kCall_i (Tryd.call15 _ _) (Each15 bs V2 a _ cp (hB.keep hS.below) (by omega) _ fun bE xE V3 hSE => ?_))
  have hrl := resD_len bs
  have hs1 := hs1.below hSE.below
  have hs2 := hs2.below hSE.below
  have hS := hS.join hSE
  obtain ⟨aE, cE, rfl, hBE⟩ := Bs.of_owns (bs := bs) (hSE.get 0 rfl)
  have hcE : cE ≤ 9223372036854775807 := own_capmax (hSE.get 0 rfl)
  have hS : St w [.bx b2 25 #[.slice a bs.length cp], .bx b3 3 #[.int .i64 many], .bx b4 4 #[.bool false], .row (.slice aE bs.length cE) 5 1 bs.length (bs.map vB), .bx bE 25 #[.slice aE bs.length cE]] V3 := hS
  refine kJn_inv (fun cs V => St w [.bx b2 25 #[.slice a bs.length cp], .bx b3 3 #[.int .i64 many], .bx b4 4 #[.bool false], .row (.slice aE bs.length cE) 5 1 bs.length (bs.map vB), .bx bE 25 #[.slice aE bs.length cE]] V) ?_ ?_
  rotate_left
  · intro J hJ
    refine kCall_i (Tryd.call11 _ _) (same35 _ _ V3 a1 a2 c1 c2 hs1 hs2 (by omega) (by omega) _ fun W hB => kUn_not ?_)
    rw [show (!decide ((resD bs).1 = (resD bs).1)) = false by simp]
    refine kIf_f ?_
    refine kCall_i (Tryd.call10 _ _) (num25 _ _ _ ?_)
    exact kNe_int (kIf_ne (fun q => absurd rfl q) (fun _ => kEq_fn37 (kIf_f (kD_i (hJ _ _ (hS.bel hB))))))
  rintro cs W hS ds0
  try dsimp only [List.getD_cons_zero]
  obtain ⟨L, hL⟩ : ∃ L : List Own, L = [.bx b2 25 #[.slice a bs.length cp], .bx b3 3 #[.int .i64 many], .bx b4 4 #[.bool false], .row (.slice aE bs.length cE) 5 1 bs.length (bs.map vB), .bx bE 25 #[.slice aE bs.length cE]] := ⟨_, rfl⟩
  have hS : St w L W := by rw [hL]; exact hS
  have i0 : L[0]? = some (.bx b2 25 #[.slice a bs.length cp]) := by rw [hL]; rfl
  have i1 : L[1]? = some (.bx b3 3 #[.int .i64 many]) := by rw [hL]; rfl
  have i2 : L[2]? = some (.bx b4 4 #[.bool false]) := by rw [hL]; rfl
  have i3 : L[3]? = some (.row (.slice aE bs.length cE) 5 1 bs.length (bs.map vB)) := by rw [hL]; rfl
  have i4 : L[4]? = some (.bx bE 25 #[.slice aE bs.length cE]) := by rw [hL]; rfl
  have i5 : L.length = 5 := by rw [hL]; rfl
  refine kAlloc_st Tryd.zeroValue3 hS fun b16 W hS => ?_
  have hS : St w (L ++ [.bx b16 3 #[.int .i64 0]]) W := hS
  refine kSt hS L.length at_r (by simp) rfl rfl rfl fun W hS => ?_
  rw [set_r] at hS
  refine ⟨⟨fun cs d W => ∃ (t : Nat) (b16 : Nat) (ds : List Nat), cs = [.pointer (some ⟨b16, 0, none⟩)] ∧ d = ds.map markOf ∧ ds.Nodup ∧ (∀ D ∈ ds, w.heap.size ≤ D) ∧ ds.length = t ∧ t ≤ 2 ∧ St w (L ++ [.bx b16 3 #[.int .i64 t]] ++ marks ds) W, fun _ d _ => 2 - d.length, ⟨0, b16, [], rfl, rfl, by simp, by simp, rfl, by omega, by rw [show marks [] = [] from rfl, List.append_nil]; exact hS⟩, ?_⟩⟩
  rintro cs ds' d W ⟨t, b16, ds, rfl, rfl, hnd, hge, hdl, ht2, hS⟩
  dsimp only [List.getD_cons_zero]
  have it : ∀ M : List Own, (L ++ [Own.bx b16 3 #[.int .i64 t]] ++ M)[5]? = some (.bx b16 3 #[.int .i64 t]) := by intro M; rw [hL]; rfl
  refine kLd hS 5 (it _) rfl rfl (kBin_lss (kIf_d (fun hlt => ?_) (fun hge2 => ?_)))
  rotate_left
  · refine kCall_i (Tryd.call7 _ _) (kworks7 W (hG.below hS.below) _ fun W' hBe => ?_)
    have hS := hS.bel hBe
    refine kSt hS 2 (at_l (at_l i2)) (by simp [Value.cells]) rfl rfl rfl fun W hS => ?_
    have hS : St w ([.bx b2 25 #[.slice a bs.length cp], .bx b3 3 #[.int .i64 many], .bx b4 4 #[.bool true], .row (.slice aE bs.length cE) 5 1 bs.length (bs.map vB), .bx bE 25 #[.slice aE bs.length cE], .bx b16 3 #[.int .i64 t]] ++ marks ds) W := by rw [hL] at hS; exact hS
    exact Lv_mks (by simp) hnd hS 2 rfl (fun V hB h4 => RetK_cell rfl (by rw [cell_of_row V b4 0 _ 4 (0, 0) h4]; rfl) (h V hB)) rfl
  have ht : t = 0 ∨ t = 1 := by omega
  refine kJnD_inv (fun _ d V => ∃ D, d = (D :: ds).map markOf ∧ (D :: ds).Nodup ∧ w.heap.size ≤ D ∧ St w (L ++ [.bx b16 3 #[.int .i64 t]] ++ marks (D :: ds)) V) ?_ ?_
  · rintro cs d V ⟨D, rfl, hnd', hgeD, hS⟩ ds2
    refine kLd hS 5 (it _) rfl rfl (kAlloc_st Tryd.zeroValue3 hS fun b16' V hS => ?_)
    refine kSt hS _ at_r (by simp [Value.cells]) rfl rfl rfl fun V hS => ?_
    rw [set_r] at hS
    refine kLd hS _ at_r rfl rfl (kBin_add (kSt hS _ at_r (by simp [Value.cells]) rfl rfl rfl fun V hS => ?_))
    rw [set_r, wrap_id (by omega) (by omega)] at hS
    have hS : St w (L ++ [.bx b16' 3 #[.int .i64 ((t + 1 : Nat) : Int)]] ++ marks (D :: ds)) V := by
      have := hS.ins 6
      have := this.del 5
      rw [hL] at this ⊢; exact this
    refine ⟨⟨t + 1, b16', D :: ds, rfl, rfl, hnd', ?_, by simp [hdl], by omega, hS⟩, by simp; omega⟩
    intro D' hD'
    rcases List.mem_cons.1 hD' with rfl | hD'
    · exact hgeD
    · exact hge D' hD'
  intro J1 hJ1
  refine kAlloc_st Tryd.zeroValue3 hS fun b11 W hS => kAlloc_st Tryd.zeroValue3 hS fun b12 W hS => ?_
  refine kSt hS _ (at_l at_r) (by simp [Value.cells]) rfl rfl rfl fun W hS => ?_
  rw [set_l _ at_r, set_r] at hS
  refine kSt hS _ at_r (by simp [Value.cells]) rfl rfl rfl fun W hS => ?_
  rw [set_r] at hS
  have hS : St w (L ++ [.bx b16 3 #[.int .i64 t], .bx b11 3 #[.int .i64 0], .bx b12 3 #[.int .i64 0]] ++ marks ds) W := by
    have hS : St w (L ++ [Own.bx b16 3 #[.int .i64 t]] ++ marks ds ++ [.bx b11 3 #[.int .i64 0]] ++ [.bx b12 3 #[.int .i64 0]]) W := hS
    refine hS.perm ?_
    have e1 : L ++ [Own.bx b16 3 #[.int .i64 t]] ++ marks ds ++ [.bx b11 3 #[.int .i64 0]] ++ [.bx b12 3 #[.int .i64 0]] = (L ++ [Own.bx b16 3 #[.int .i64 t]]) ++ (marks ds ++ [.bx b11 3 #[.int .i64 0], .bx b12 3 #[.int .i64 0]]) := by simp
    have e2 : L ++ [Own.bx b16 3 #[.int .i64 t], .bx b11 3 #[.int .i64 0], .bx b12 3 #[.int .i64 0]] ++ marks ds = (L ++ [Own.bx b16 3 #[.int .i64 t]]) ++ ([.bx b11 3 #[.int .i64 0], .bx b12 3 #[.int .i64 0]] ++ marks ds) := by simp
    rw [e1, e2]
    exact List.Perm.append_left _ List.perm_append_comm
  have jt : ∀ (p c : Int) (M : List Own), (L ++ [Own.bx b16 3 #[.int .i64 t], .bx b11 3 #[.int .i64 p], .bx b12 3 #[.int .i64 c]] ++ M)[5]? = some (.bx b16 3 #[.int .i64 t]) := by intro p c M; rw [hL]; rfl
  have jp : ∀ (p c : Int) (M : List Own), (L ++ [Own.bx b16 3 #[.int .i64 t], .bx b11 3 #[.int .i64 p], .bx b12 3 #[.int .i64 c]] ++ M)[6]? = some (.bx b11 3 #[.int .i64 p]) := by intro p c M; rw [hL]; rfl
  have jn : ∀ (p c : Int) (M : List Own), (L ++ [Own.bx b16 3 #[.int .i64 t], .bx b11 3 #[.int .i64 p], .bx b12 3 #[.int .i64 c]] ++ M)[7]? = some (.bx b12 3 #[.int .i64 c]) := by intro p c M; rw [hL]; rfl
  have jm : ∀ (p c : Int) (M : List Own), (L ++ [Own.bx b16 3 #[.int .i64 t], .bx b11 3 #[.int .i64 p], .bx b12 3 #[.int .i64 c]] ++ M)[1]? = some (.bx b3 3 #[.int .i64 many]) := by intro p c M; rw [hL]; rfl
  have jb : ∀ (p c : Int) (M : List Own), (L ++ [Own.bx b16 3 #[.int .i64 t], .bx b11 3 #[.int .i64 p], .bx b12 3 #[.int .i64 c]] ++ M)[0]? = some (.bx b2 25 #[.slice a bs.length cp]) := by intro p c M; rw [hL]; rfl
  refine kJnD_inv (fun _ d V => ∃ D, d = (D :: ds).map markOf ∧ (D :: ds).Nodup ∧ w.heap.size ≤ D ∧ ∃ (p c : Nat), (t = 1 → p = posK bs (eachK bs 0).length) ∧ St w (L ++ [.bx b16 3 #[.int .i64 t], .bx b11 3 #[.int .i64 p], .bx b12 3 #[.int .i64 c]] ++ marks (D :: ds)) V) ?_ ?_
  · rintro cs d V ⟨D, rfl, hnd', hgeD, p, c, hp, hS⟩ ds2
    have fin : ∀ V, St w (L ++ [.bx b16 3 #[.int .i64 t], .bx b11 3 #[.int .i64 p], .bx b12 3 #[.int .i64 c]] ++ marks (D :: ds)) V → J1 [] ((D :: ds).map markOf) V := fun V hS => hJ1 _ _ _ ⟨D, rfl, hnd', hgeD, by have := hS.del 6; have := this.del 6; rw [hL] at this ⊢; exact this⟩
    rcases ht with rfl | rfl
    · exact kLd hS 5 (jt _ _ _) rfl rfl (kEq_int (kIf_eq (fun h0 => by simp at h0) (fun _ => fin V hS)))
    · have hp := hp rfl
      have hple := posK_le bs (eachK bs 0).length
      refine kLd hS 5 (jt _ _ _) rfl rfl (kEq_int (kIf_eq (fun _ => ?_) (fun hne => absurd rfl hne)))
      refine kLd hS 0 (jb _ _ _) rfl rfl (kLd hS 6 (jp _ _ _) rfl rfl (xSl25_l (by omega) hB.cap ?_))
      refine kCall_i (Tryd.call16 _ _) (Read16 (bs.drop p) V _ _ _ ((hB.keep hS.below).drop (by omega)) (fun b hb => hbyte b (List.mem_of_mem_drop hb)) (by omega) _ (fun r m hr W hW => ?_) (fun hr W hW => ?_))
      · have := eachK_end (bs := bs) (i := (eachK bs 0).length) rfl
        rw [hp, this] at hr; cases hr
      · refine kExt_0 (kExt_1 (kAlloc_st Tryd.zeroValue41 (hS.bel hW) fun b6 W hS => kStoreAR hS rfl (by simp [Value.oneCell']) Tryd.sizeOf41 fun W hS => kNe_int (kIf_ne (fun q => absurd rfl q) (fun _ => fin W hS.init))))
  intro J2 hJ2
  have hdlt : ∀ D ∈ ds, D < W.heap.size := fun D hD => (Own.lt (hS.all (.ob D (.deferred (some []))) (List.mem_append_right _ (List.mem_map.2 ⟨D, hD, rfl⟩))) D rfl).2
  refine kRange_fr (w0 := w) (eachK bs 0).length (fun i => eachX bs i)
    (fun i X => X = L ++ [.bx b16 3 #[.int .i64 t], .bx b11 3 #[.int .i64 (posK bs i : Nat)], .bx b12 3 #[.int .i64 (i : Nat)]])
    (fun ex X => ex = .exit 2 ∧ t = 0 ∧ ∃ p c : Nat, X = L ++ [.bx b16 3 #[.int .i64 t], .bx b11 3 #[.int .i64 (p : Nat)], .bx b12 3 #[.int .i64 (c : Nat)]])
    (fun _ => rfl) ⟨_, rfl, by simpa [posK] using hS⟩ hnd hdlt ?_ (iterS33 (n := bs.length) hbyte hcE (by omega) (fun i X hX => ⟨4, 3, by rw [hX]; exact at_l i4, by rw [hX]; exact at_l i3⟩)) ?_ ?_ ?_ ?_
  · rintro i l1 D lo1 W1 X E hi rfl hV
    obtain ⟨r, m, hr, hget, hpos'⟩ := eachK_get hi
    have hpos := readK_pos hr
    have hple := posK_le bs i
    simp only [List.length_drop] at hpos
    have hx : eachX bs i = [.int .i64 ((posK bs i : Nat) : Int), vVal r] := by
      unfold eachX
      rw [show (eachK bs 0).getD i (0, 0, 0, ⟨#[]⟩) = (eachK bs 0)[i] by simp [hi], hget]
    try dsimp only
    rw [hx]
    try dsimp only [List.getD_cons_zero, List.getD_cons_succ]
    refine kAlloc_st Tryd.zeroValue41 hV fun b14 V1 hS1 => kStoreAR hS1 rfl (by simp [Value.oneCell']) Tryd.sizeOf41 fun V2 hS2 => ?_
    refine rndMid_fr hV hS2 fun lo2 V3 hS3 => ?_
    refine kLd hS3 0 (at_l (at_l (at_l (jb _ _ _)))) rfl rfl (kLd hS3 6 (at_l (at_l (at_l (jp _ _ _)))) rfl rfl (xSl25_l (by omega) hB.cap ?_))
    refine kCall_i (Tryd.call16 _ _) (Read16 (bs.drop (posK bs i)) V3 _ _ _ ((hB.keep hS3.below).drop (by omega)) (fun b hb => hbyte b (List.mem_of_mem_drop hb)) (by omega) _ (fun r' m' hr' W hW => ?_) (fun hr' W hW => by rw [hr] at hr'; cases hr'))
    rw [hr] at hr'
    cases hr'
    refine kExt_0 (kExt_1 (kAlloc_st Tryd.zeroValue41 (hS3.bel hW) fun b15 W hS => kStoreAR hS rfl (by simp [Value.oneCell']) Tryd.sizeOf41 fun W hS4 => ?_))
    have hS4 : St w (L ++ [.bx b16 3 #[.int .i64 t], .bx b11 3 #[.int .i64 (posK bs i : Nat)], .bx b12 3 #[.int .i64 (i : Nat)]] ++ marks ds ++ lpD l1 lo2 D ++ E ++ [.bx b14 41 (vVal r).cells] ++ [.bx b15 41 (vVal r).cells]) W := hS4
    refine kJn_inv (fun cs V => St w (L ++ [.bx b16 3 #[.int .i64 t], .bx b11 3 #[.int .i64 (posK bs i : Nat)], .bx b12 3 #[.int .i64 (i : Nat)]] ++ marks ds ++ lpD l1 lo2 D ++ E ++ [.bx b14 41 (vVal r).cells] ++ [.bx b15 41 (vVal r).cells]) V) ?_ ?_
    rotate_left
    · intro J3 hJ3
      refine kEq_int (kIf_eq (fun q => by omega) (fun _ => kLd hS4 6 (at_l (at_l (at_l (at_l (jp _ _ _))))) rfl rfl (kNe_int (kIf_ne (fun q => absurd rfl q) (fun _ => ?_)))))
      refine xLdB41 hS4 _ (at_l at_r) rfl (xLdB41 hS4 _ at_r rfl (kNe_49 (a := r) (b := r) ?_))
      rw [show (!decide (r = r)) = false by simp]
      exact kIf_f (kD_i (hJ3 _ _ hS4))
    rintro cs V5 hS5 ds5
    try dsimp only [List.getD_cons_zero]
    refine kLd hS5 6 (at_l (at_l (at_l (at_l (jp _ _ _))))) rfl rfl (kBin_add (kSt hS5 6 (at_l (at_l (at_l (at_l (jp _ _ _))))) (by simp) rfl rfl rfl fun V6 hS6 => ?_))
    have hS6 : St w (L ++ [.bx b16 3 #[.int .i64 t], .bx b11 3 #[.int .i64 (posK bs (i + 1) : Nat)], .bx b12 3 #[.int .i64 (i : Nat)]] ++ marks ds ++ lpD l1 lo2 D ++ E ++ [.bx b14 41 (vVal r).cells] ++ [.bx b15 41 (vVal r).cells]) V6 := by
      rw [wrap_id (by omega) (by omega)] at hS6
      rw [hpos', show ((posK bs i + m : Nat) : Int) = (posK bs i : Int) + (m : Nat) by omega]
      rw [hL] at hS6 ⊢; exact hS6
    refine kLd hS6 7 (at_l (at_l (at_l (at_l (jn _ _ _))))) rfl rfl (kBin_add (kSt hS6 7 (at_l (at_l (at_l (at_l (jn _ _ _))))) (by simp) rfl rfl rfl fun V7 hS7 => ?_))
    have hie : i < 1000000 := by
      have h1 := posK_ge (bs := bs) (i := i) (by omega)
      omega
    have hS7 : St w (L ++ [.bx b16 3 #[.int .i64 t], .bx b11 3 #[.int .i64 (posK bs (i + 1) : Nat)], .bx b12 3 #[.int .i64 ((i + 1 : Nat) : Int)]] ++ marks ds ++ lpD l1 lo2 D ++ E ++ [.bx b14 41 (vVal r).cells, .bx b15 41 (vVal r).cells]) V7 := by
      rw [wrap_id (by omega) (by omega)] at hS7
      have e : ∀ (A : List Own) (x y : Own), A ++ [x, y] = A ++ [x] ++ [y] := by simp
      rw [e]
      rw [hL] at hS7 ⊢; exact hS7
    refine kLd hS7 5 (at_l (at_l (at_l (jt _ _ _)))) rfl rfl (kEq_int (kIf_eq (fun e0 => ?_) (fun e0 => ?_)))
    · refine kLd hS7 7 (at_l (at_l (at_l (jn _ _ _)))) rfl rfl (kLd hS7 1 (at_l (at_l (at_l (jm _ _ _)))) rfl rfl (kBin_geq (kIf_d (fun hg => rndEnd_fr hV hS7 fun hV' => ⟨lo2, _, ⟨rfl, by omega, _, _, rfl⟩, hV'⟩) (fun hg => rndEnd_fr hV hS7 fun hV' => ⟨lo2, _, rfl, hV'⟩))))
    · exact kIf_f (rndEnd_fr hV hS7 fun hV' => ⟨lo2, _, rfl, hV'⟩)
  · rintro D V X rfl m1 m2 m3
    exact hJ2 _ _ _ ⟨D, rfl, m1, m2, _, _, fun _ => rfl, m3⟩
  · rintro D V X ⟨he, _⟩; cases he
  · rintro id D V X ⟨he, ht0, p, c, rfl⟩ m1 m2 m3
    cases he
    have hj : J2 [] ((D :: ds).map markOf) V := hJ2 _ _ _ ⟨D, rfl, m1, m2, p, c, fun q => by omega, m3⟩
    exact ⟨hj⟩
  · rintro ch D V X ⟨he, _⟩; cases he
end Go.L
namespace Go.L
open Go Go.RowKit Go.Proofs Go.ChangeShapes Go.WideShapes Go.ChangeAt
set_option linter.unusedSimpArgs false
set_option linter.unusedVariables false

theorem laidOutD : laidOutB Tryd.prog = true := by kernel_rfl
theorem cells41 : Tryd.prog.cellsOf 41 = 3 := by kernel_rfl
theorem cells5 : Tryd.prog.cellsOf 5 = 1 := by kernel_rfl
section
variable {H : Type} {enc : TypeId × Value → H} {W : World}
theorem el41 (n : Nat) (c1 : List Value) (y : DataW H × List MemPlace) (h : DataW.trod enc Tryd.prog W 0 (fun _ => true) true n 41 c1 = some y) : ∃ r : AV, c1 = (vVal r).cells.toList ∧ Rng r := by
  obtain ⟨xs, m, _, _, hlen, hx, hf⟩ := DataW.trod_struct Tryd.underlying41 h
  rw [cells41] at hlen
  obtain ⟨v0, v1, v2, rfl⟩ : ∃ v0 v1 v2, c1 = [v0, v1, v2] := by
    cases c1 with
    | nil => cases hlen
    | cons v0 l =>
      cases l with
      | nil => simp at hlen
      | cons v1 l =>
        cases l with
        | nil => simp at hlen
        | cons v2 l =>
          cases l with
          | nil => exact ⟨_, _, _, rfl⟩
          | cons v3 l => simp at hlen
  · skip
    have h0 : DataW.trod enc Tryd.prog W 0 (fun _ => true) true m 39 (([v0, v1, v2].drop 0).take (Tryd.prog.cellsOf 39)) = xs[0]? := hf 0 _ rfl
    have h1 : DataW.trod enc Tryd.prog W 0 (fun _ => true) true m 2 (([v0, v1, v2].drop 1).take (Tryd.prog.cellsOf 2)) = xs[1]? := hf 1 _ rfl
    have h2 : DataW.trod enc Tryd.prog W 0 (fun _ => true) true m 9 (([v0, v1, v2].drop 2).take (Tryd.prog.cellsOf 9)) = xs[2]? := hf 2 _ rfl
    have c39 : Tryd.prog.cellsOf 39 = 1 := by kernel_rfl
    have c2 : Tryd.prog.cellsOf 2 = 1 := by kernel_rfl
    have c9 : Tryd.prog.cellsOf 9 = 1 := by kernel_rfl
    simp only [c39, c2, c9, List.drop_zero, List.take_succ_cons, List.take_zero, List.drop_succ_cons] at h0 h1 h2
    have hx3 : xs.length = 3 := hx
    obtain ⟨x0, hx0⟩ : ∃ x, xs[0]? = some x := ⟨xs[0], by simp [hx3]⟩
    obtain ⟨x1, hx1⟩ : ∃ x, xs[1]? = some x := ⟨xs[1], by simp [hx3]⟩
    obtain ⟨x2, hx2⟩ : ∃ x, xs[2]? = some x := ⟨xs[2], by simp [hx3]⟩
    rw [hx0] at h0
    rw [hx1] at h1
    rw [hx2] at h2
    obtain ⟨n0, e0, _, w0⟩ := DataW.trod_int Tryd.underlying39 h0
    obtain ⟨n1, e1, _, w1⟩ := DataW.trod_int Tryd.underlying2 h1
    obtain ⟨s, e2, _, _⟩ := DataW.trod_string Tryd.underlying9 h2
    simp only [List.cons.injEq, and_true] at e0 e1 e2
    subst e0; subst e1; subst e2
    refine ⟨(n0, n1, s), rfl, ?_⟩
    simpa [Lit.wf, IntKind.min, IntKind.max, IntKind.signed, IntKind.bits, Rng] using w1
theorem el_int {e : TypeId} (he : Tryd.prog.underlying e = some (.int .i64)) (n : Nat) (c1 : List Value) (y : DataW H × List MemPlace) (h : DataW.trod enc Tryd.prog W 0 (fun _ => true) true n e c1 = some y) : ∃ r : Int, c1 = (vInt r).cells.toList ∧ (-9223372036854775808 ≤ r ∧ r ≤ 9223372036854775807) := by
  obtain ⟨n0, rfl, _, w0⟩ := DataW.trod_int he h
  exact ⟨n0, rfl, by simpa [Lit.wf, IntKind.min, IntKind.max, IntKind.signed, IntKind.bits] using w0⟩
theorem el_byte (n : Nat) (c1 : List Value) (y : DataW H × List MemPlace) (h : DataW.trod enc Tryd.prog W 0 (fun _ => true) true n 5 c1 = some y) : ∃ r : Nat, c1 = (vB r).cells.toList ∧ r < 256 := by
  obtain ⟨n0, rfl, _, w0⟩ := DataW.trod_int Tryd.underlying5 h
  have : 0 ≤ n0 ∧ n0 ≤ 255 := by simpa [Lit.wf, IntKind.min, IntKind.max, IntKind.signed, IntKind.bits] using w0
  exact ⟨n0.toNat, by simp [vB, Value.cells, Int.toNat_of_nonneg this.1], by omega⟩
end
/-- A contract that is handed what the listed variables hold, and the shape of the world. -/
theorem returnsInHanded_both {H : Type} {enc : TypeId × Value → H} {a : Assume} {C : Checked} {os : Os} {f : FuncId} {fn : Func} {s : ChangeSpec} {conds : List PathCond} {apart fresh handsOn again : Bool} {X : World → Array Value → Prop}
    (hX : ∀ (w w' : World) (args : Array Value), w.heap = w'.heap → X w args → X w' args)
    (own : ownKnob C.prog.godebug = none) (started : os.Started) (noInit : C.prog.inits.idxOf? f = none) (hfn : C.prog.funcs[f]? = some fn)
    (witness : ∃ (w : World) (tape : Tape) (i : Input), w.os = os ∧ (w.forCall tape i).Shaped C.prog ∧ i.vars = [] ∧ Input.okWide C.prog (w.forCall tape i) .any w.heap.size f i ∧
      ((s.pre enc C.prog fn conds apart (w.forCall tape i).memory i.args ∧ X (w.forCall tape i).memory i.args) ∧ sizedMet enc C.prog fn (OpenSpec.ofChange s) apart (w.forCall tape i).memory i.args) ∧ a.holds C.prog (lone (Frame.enter C.prog f i.args .normal) [] (w.forCall tape i)))
    (contract : ∀ (W : World) (base : Nat) (args : Array Value) (ds gs : List (DataW H)) (before : List MemPlace),
      (∀ (j : Nat) t v, fn.params[j]? = some t → args[j]? = some v → Value.okWide C.prog W .any base t v) →
      DataW.Whole enc C.prog fn.params.toList s.vars apart W args.toList ds gs before →
      W.ShapedOpen C.prog → X W args →
      Calls C.prog f args W fun e W' => ∃ v, e = .returned v ∧ s.post enc C.prog fn apart fresh handsOn again W args v W') :
    ReturnsInHanded a C os f .any (fun w args => (s.pre enc C.prog fn conds apart w args ∧ X w args) ∧ sizedMet enc C.prog fn (OpenSpec.ofChange s) apart w args) (s.post enc C.prog fn apart fresh handsOn again) := by
  refine returnsInHanded_of_calls own started noInit witness ?_
  intro w tape i _ hsh _ hok hpre hholds
  obtain ⟨_, _, _, fn', hfn', _, _, _, _, hval⟩ := hok
  have e : fn' = fn := Option.some.inj (hfn'.symm.trans hfn)
  subst e
  obtain ⟨⟨⟨ds, gs, before, hw, hc⟩, hx⟩, hz⟩ := hpre
  have hw' := DataW.Whole.of_heap (w' := w.forCall tape i) (by rfl) hw
  refine (contract (w.forCall tape i) w.heap.size i.args ds gs before hval hw' hsh (hX _ _ _ (by rfl) hx)).mono fun e W' ⟨v, he, hp⟩ => ?_
  subst he
  exact ChangeSpec.post_blind hp
/-- What the shape of the world gives of the variable that strings' own functions look at. -/
theorem glob_of_shaped {W : World} (h : W.ShapedOpen Tryd.prog) : Glob W := by
  refine ⟨cell_of_shapedOpen_int (g := 1) (t := 3) (zero := #[.int .i64 0]) h (of_decide_eq_true (by kernel_rfl)) (by kernel_rfl) rfl (by kernel_rfl) (by kernel_rfl) Tryd.underlying3, ?_⟩
  obtain ⟨cs, hh, _⟩ := h.1 1 _ 3 (of_decide_eq_true (by kernel_rfl)) (by kernel_rfl : _ = some (#[.int .i64 0], 3))
  exact (Array.getElem?_eq_some_iff.1 hh).1
end Go.L
