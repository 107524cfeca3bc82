/- Contracts of single functions: no condition but those that each states. -/
import Derived.Test.YtjifkcfmolnepaaB1
import Derived.Laws.BytesArg
import Derived.Test.YtjifkcfmolnepaaRows
import Derived.JoinedCond
set_option linter.unusedVariables false
set_option linter.unusedSimpArgs false
namespace Go.L
open Go Go.RowKit Go.Proofs
set_option linter.unusedSimpArgs false
set_option linter.unusedVariables false

def enc1 (r : AV) : List Nat := r.1.toNat :: layB r
theorem badE_take {rows : List AV} {i : Nat} (hi : i < rows.length) (h : ∀ r ∈ rows.take i, checkE r = 0) (hc : checkE rows[i] ≠ 0) : badE rows = checkE rows[i] := by
  induction rows generalizing i with
  | nil => simp at hi
  | cons a l ih =>
    cases i with
    | zero => simp [badE] at hc ⊢; intro h0; exact absurd h0 hc
    | succ i =>
      have ha : checkE a = 0 := h a (by simp)
      simp only [badE, ha, ne_eq, not_true_eq_false, if_false, List.getElem_cons_succ] at hc ⊢
      exact ih (by simpa using hi) (fun r hr => h r (by simp [hr])) hc
theorem badE_all {rows : List AV} (h : ∀ r ∈ rows, checkE r = 0) : badE rows = 0 := by
  induction rows with
  | nil => rfl
  | cons a l ih => simp [badE, h a (by simp), ih (fun r hr => h r (by simp [hr]))]
theorem checkE_size {r : AV} (h : checkE r = 0) : r.2.2.size ≤ 1000 := by
  simp only [checkE] at h
  rcases Nat.lt_or_ge 1000 r.2.2.size with h1 | h1
  · rw [if_pos h1] at h; omega
  · exact h1
theorem enc_len {rows : List AV} (h : ∀ r ∈ rows, checkE r = 0) (hr : ∀ r ∈ rows, Rng r) : (rows.flatMap enc1).length ≤ 1021 * rows.length := by
  induction rows with
  | nil => simp
  | cons a l ih =>
    have h1 := layB_len a (checkE_size (h a (by simp))) (hr a (by simp))
    have h2 := ih (fun r hr => h r (by simp [hr])) (fun r h => hr r (by simp [h]))
    simp only [List.flatMap_cons, List.length_append, enc1, List.length_cons] at h2 ⊢
    omega

theorem St.reidx {w0 W : World} {L L' : List Own} (h : St w0 L W) (f : Nat → Nat) (hf : ∀ i j, f i = f j → i = j) (hL : ∀ i a, L'[i]? = some a → L[f i]? = some a) : St w0 L' W :=
  ⟨h.below, fun o ho => by
    obtain ⟨i, hi⟩ := List.mem_iff_getElem?.1 ho
    exact h.get _ (hL i o hi), fun i j a b ha hb hij => h.apart _ _ a b (hL i a ha) (hL j b hb) (fun e => hij (hf i j e))⟩
def turn6 (i : Nat) : Nat := if i = 3 then 5 else if i = 4 then 3 else if i = 5 then 4 else i
theorem St.turn6 {w0 W : World} {a b c d e f : Own} (h : St w0 [a, b, c, d, e, f] W) : St w0 [a, b, c, f, d, e] W :=
  h.reidx Go.L.turn6 (by intro i j h; unfold Go.L.turn6 at h; (repeat' split at h) <;> omega) (by
    intro i x hx
    match i, hx with
    | 0, hx => exact hx
    | 1, hx => exact hx
    | 2, hx => exact hx
    | 3, hx => exact hx
    | 4, hx => exact hx
    | 5, hx => exact hx
    | n + 6, hx => simp at hx)
def eJ (w : World) (rows : List AV) (b3 bv : Nat) (sl : Value) (i : Nat) (W : World) : Prop :=
  ∃ x, St w [.row x 5 1 (numB rows.length ++ (rows.take i).flatMap enc1).length ((numB rows.length ++ (rows.take i).flatMap enc1).map vB), .bx b3 38 #[x], .bx bv 22 #[sl]] W ∧ ∀ r ∈ rows.take i, checkE r = 0
def eZ (w : World) (rows : List AV) (ex : Exit) (W : World) : Prop := ex = .panic [pe (badE rows) false] ∧ badE rows ≠ 0 ∧ Below w.heap.size w W

theorem encoded41 (rows : List AV) (w : World) (lo : Option Addr) (lc : Nat) (hl : Sl w lo 3 (rows.map vVal)) (hr : ∀ r ∈ rows, Rng r) (hb : rows.length ≤ 10000) (R : Ending → World → Prop)
    (h0 : encE rows = 0 → Makes w (encB rows) R) (h1 : encE rows ≠ 0 → ∀ W, Below w.heap.size w W → R (.panicked [pe (encE rows) false]) W) : Calls Try.prog 41 #[.slice lo rows.length lc] w R := by
  refine c41 _ _ _ _ _ ?_
  unfold vc41
  refine kLen22 (kCv3_84 (by omega) (kCall_i (Try.call77 _ _) (number77 _ (by omega) _ _ fun x0 W hB hown hlen => ?_)))
  have hS := (St.start w).made hB hown
  refine kAlloc_st Try.zeroValue38 hS fun b3 W hS => kSt hS 1 rfl (by simp [Value.cells]) ?_ ?_ rfl fun W hS => ?_
  · rcases hown.2 with ⟨rfl, _⟩ | ⟨g, cap, cur, rfl, _⟩ <;> rfl
  · rcases hown.2 with ⟨rfl, _⟩ | ⟨g, cap, cur, rfl, _⟩ <;> rfl
  refine kCall_i (Try.call78 _ _) (values78 _ _ _ _ _ fun bv W6 hB hbv hbox => ?_)
  have hS := hS.push (grown_of_below hB) (o := .bx bv 22 #[.slice lo rows.length lc]) ⟨Nat.le_trans hS.size hbv, hbox⟩ (fun k hk => by cases hk; exact hbv)
  have hcl : ∀ x n xs, ∀ o ∈ ([.row x 5 1 n xs, .bx b3 38 #[x], .bx bv 22 #[.slice lo rows.length lc]] : List Own), o.cl := by
    intro x n xs o ho; simp at ho; rcases ho with rfl | rfl | rfl <;> trivial
  have hSl : ∀ i V, eJ w rows b3 bv (.slice lo rows.length lc) i V → Sl V lo 3 (rows.map vVal) := by
    rintro i V ⟨x, hV, _⟩; exact hl.below hV.below
  refine ⟨rfl, rows.length, fun i => [(rows.map vVal).getD i undef], eJ w rows b3 bv (.slice lo rows.length lc), eZ w rows, ?_, ?_, fun _ => rfl, ?_, ?_, iter112 hbox (by omega) hSl, ?_, ?_, ?_, ?_⟩
  · rintro i _ V V' row ⟨x, hV, hc⟩ hg hrow
    exact ⟨x, hV.turn (hcl _ _ _) hg (fun r hr => ⟨Nat.le_trans hS.size (hrow r hr).1, (hrow r hr).2⟩), hc⟩
  · rintro ex _ V V' row ⟨he, hn, hV⟩ hg hrow
    exact ⟨he, hn, Below.turn hV hg (fun r hr => ⟨Nat.le_trans hS.size (hrow r hr).1, (hrow r hr).2⟩)⟩
  · have hS' : St w [.row x0 5 1 (numB rows.length).length ((numB rows.length).map vB), .bx b3 38 #[x0], .bx bv 22 #[.slice lo rows.length lc]] W6 := hS
    exact ⟨x0, by simpa using hS', by simp⟩
  · rintro i l D lo' V hi hD hl' hlD hlo hdf ⟨x, hV, hc⟩
    have hx : ([(rows.map vVal).getD i undef] : List Value).getD 0 undef = vVal rows[i] := by simp [hi]
    dsimp only
    rw [hx]
    have hcl' := hcl x (numB rows.length ++ (rows.take i).flatMap enc1).length ((numB rows.length ++ (rows.take i).flatMap enc1).map vB)
    have hV2 := hV.adopt (o := .ob l (.loop lo')) ⟨Nat.le_trans hS.size hl', hlo⟩ (fun p hp => by
      cases hb : p.blk with
      | none => exact .inl rfl
      | some b =>
        right; intro he
        obtain ⟨c, t, f, hc2⟩ := Own.cl_blk (hV.all p hp) (hcl' p hp) b hb
        cases he; rw [hlo] at hc2; cases hc2)
    have hV3 := hV2.adopt (o := .ob D (.deferred (some []))) ⟨Nat.le_trans hS.size hD, hdf⟩ (fun p hp => by
      rcases List.mem_append.1 hp with hp | hp
      · cases hb : p.blk with
        | none => exact .inl rfl
        | some b =>
          right; intro he
          obtain ⟨c, t, f, hc2⟩ := Own.cl_blk (hV.all p hp) (hcl' p hp) b hb
          cases he; rw [hdf] at hc2; cases hc2
      · simp at hp; subst hp; right; intro he; cases he; exact hlD rfl)
    have bad : checkE rows[i] ≠ 0 → ∀ V', Below w.heap.size w V' → eZ w rows (.panic [pe (checkE rows[i]) false]) V' := fun hne V' hB' => by
      have := badE_take hi hc hne
      exact ⟨by rw [this], by rw [this]; exact hne, hB'⟩
    refine kAlloc_st Try.zeroValue49 hV3 fun b4 V1 hS1 => kStoreA_st hS1 5 rfl rfl (by simp [Value.oneCell']) Try.sizeOf49 fun V2 hS2 => ?_
    refine ⟨(hS2.get 3 rfl).2.trans hlo.symm, (hS2.get 4 rfl).2.trans hdf.symm, fun lo2 => ?_⟩
    have hl2 := hS2.get 3 rfl
    have hS3 := (hS2.set (W' := V2.putObj l (.loop lo2)) 3 (o' := .ob l (.loop lo2)) rfl (grownBy_putObj' V2 l _) ⟨hl2.1, World.putObj_heap_same (Array.getElem?_eq_some_iff.1 hl2.2).1⟩ (.inl rfl))
    have hS4 := St.turn6 hS3
    generalize V2.putObj l (.loop lo2) = V3 at hS4 ⊢
    refine kLoadA_st (c := ⟨Try.prog, _, false⟩) hS4 3 rfl Try.underlying49 rfl Try.sizeOf49 rfl ?_
    refine kCall_i (Try.call57 _ _) (check57 rows[i] _ _ fun V4 hB4 => ?_)
    have hS5 := hS4.bel hB4
    have hend : ∀ ex V', St w [.ob l (.loop lo2), .ob D (.deferred (some []))] V' → eZ w rows ex V' → ex ≠ .normal → rndEnd l D lo2 V (fun ex W' => match ex with | .normal => eJ w rows b3 bv (.slice lo rows.length lc) (i + 1) W' | ex => eZ w rows ex W') ex [] V' := by
      intro ex V' hS' hz hn
      refine ⟨rfl, (hS'.get 0 rfl).2, (hS'.get 1 rfl).2.trans hdf.symm, ?_⟩
      cases ex <;> first | exact absurd rfl hn | exact hz
    refine kEq_int (kCall_i (Try.call44 _ _) (must44 _ _ _ _ (fun hok => ?_) (fun hbad => ?_)))
    · have hok : checkE rows[i] = 0 := by simpa using hok
      have hRi := hr _ (List.getElem_mem hi)
      have hll := layB_len rows[i] (checkE_size hok) hRi
      have hpre := enc_len hc (fun r h => hr r (List.mem_of_mem_take h))
      have hn10 := numB_len64 (n := rows.length) (by omega)
      have htl : (rows.take i).length ≤ 10000 := by simp; omega
      refine ⟨rfl, region41 (q1 := .ob l (.loop lo2)) (q2 := .ob D (.deferred (some []))) (bs := numB rows.length ++ (rows.take i).flatMap enc1) hS5 hok hRi (by simp only [List.length_append]; omega) (by omega) fun vs V5 hS6 => ?_⟩
      have hrow : V5.ownsRow w.heap.size 5 1 (vs 12) _ _ := hS6.get 0 rfl
      have hval : (vs 12).cells = #[vs 12] ∧ (vs 12).oneCell' = true := by
        rcases hrow.2 with ⟨h, _⟩ | ⟨g, cap, cur, h, _⟩ <;> rw [h] <;> exact ⟨rfl, rfl⟩
      refine kSt hS6 1 rfl (by simp) hval.1 hval.2 rfl fun V6 hS7 => ⟨rfl, (hS7.get 4 rfl).2, (hS7.get 5 rfl).2.trans hdf.symm, ?_⟩
      have h3 := hS7.take 3
      have ebs : numB rows.length ++ (rows.take i).flatMap enc1 ++ [rows[i].1.toNat] ++ layB rows[i] = numB rows.length ++ (rows.take (i + 1)).flatMap enc1 := by
        rw [List.take_succ_eq_append_getElem hi, List.flatMap_append]
        simp [enc1]
      have elen : (numB rows.length ++ (rows.take i).flatMap enc1).length + 1 + (layB rows[i]).length = (numB rows.length ++ (rows.take (i + 1)).flatMap enc1).length := by
        rw [← ebs]; simp; omega
      refine ⟨vs 12, ?_, fun r hr => ?_⟩
      · rw [← elen, ← ebs]
        simpa [eL] using h3
      · rw [List.take_succ_eq_append_getElem hi] at hr
        rcases List.mem_append.1 hr with hr | hr
        · exact hc r hr
        · simp at hr; subst hr; exact hok
    · have hbad : checkE rows[i] ≠ 0 := by simpa using hbad
      refine hend (.panic _) V4 (hS5.reidx (fun i => i + 4) (by intro i j h; omega) (by
        intro i a ha
        match i, ha with
        | 0, ha => exact ha
        | 1, ha => exact ha
        | n + 2, ha => simp at ha)) (bad hbad V4 hS5.below) (by simp)
  · rintro D V hD hdf ⟨x, hV, hc⟩
    rw [List.take_length] at hV hc
    have hV2 := hV.adopt (o := .ob D (.deferred (some []))) ⟨Nat.le_trans hS.size hD, hdf⟩ (fun p hp => by
      cases hb : p.blk with
      | none => exact .inl rfl
      | some b =>
        right; intro he
        obtain ⟨c, t, f, hc2⟩ := Own.cl_blk (hV.all p hp) (hcl _ _ _ p hp) b hb
        cases he; rw [hdf] at hc2; cases hc2)
    have hD2 := hV2.get 3 rfl
    have hS3 := (hV2.set (W' := V.putObj D (.deferred none)) 3 (o' := .ob D (.deferred none)) rfl (grownBy_putObj' V D _) ⟨hD2.1, World.putObj_heap_same (Array.getElem?_eq_some_iff.1 hD2.2).1⟩ (.inl rfl))
    have ebs : numB rows.length ++ rows.flatMap enc1 = encB rows := rfl
    rw [ebs] at hV hV2 hS3
    have hbe := badE_all hc
    have hrow : V.ownsRow w.heap.size 5 1 x _ _ := hV.get 0 rfl
    obtain ⟨a, cp, rfl⟩ : ∃ a cp, x = .slice a (encB rows).length cp := by
      rcases hrow.2 with ⟨h, hn⟩ | ⟨g, cap, cur, h, _⟩
      · exact ⟨none, 0, by rw [h, hn]⟩
      · exact ⟨_, _, h⟩
    have hpan : ¬ (rows.length ≤ 32 ∧ (encB rows).length ≤ 4000) → R (.panicked [pe 3 false]) (V.putObj D (.deferred none)) := fun hn => by
      have he : encE rows = 3 := by simp [encE, hbe, hn]
      have := h1 (by omega) _ hS3.below
      rwa [he] at this
    refine kLen22 (kBin_leq (kIf_d (fun h32 => ?_) (fun h32 => ?_)))
    · refine kLd hV 1 rfl rfl rfl (kLen38 (kBin_leq (kCall_i (Try.call44 _ _) (must44 _ _ _ _ (fun hok => ?_) (fun hbad => ?_)))))
      · refine kLd hV 1 rfl rfl rfl ⟨hdf, ?_⟩
        have he : encE rows = 0 := by simp at hok; simp [encE, hbe]; omega
        exact h0 he _ _ hS3.below (hS3.get 0 rfl)
      · exact ⟨hdf, hpan (by simp at hbad; omega)⟩
    · exact kCall_i (Try.call44 _ _) (must44 _ _ _ _ (fun hok => by cases hok) (fun _ => ⟨hdf, hpan (by omega)⟩))
  · rintro D V hD hdf ⟨he, _⟩; cases he
  · rintro id D V hD hdf ⟨he, _⟩; cases he
  · rintro ch D V hD hdf ⟨he, hn, hV⟩
    cases he
    have heE : encE rows = badE rows := by simp [encE, hn]
    have := h1 (by rw [heE]; exact hn) (V.putObj D (.deferred none)) (Below.turn hV (grownBy_putObj' V D _) (fun r hr => by cases hr; exact ⟨Nat.le_trans hS.size hD, _, hdf, rfl⟩))
    rw [heE] at this
    exact ⟨hdf, this⟩
end Go.L
namespace Go.L
open Go Go.RowKit Go.Proofs
set_option linter.unusedSimpArgs false
set_option linter.unusedVariables false

theorem RetK_cell2 {R : Ending → World → Prop} {w : World} {a b : Addr} {t u : TypeId} {v v' : Value} (ht : scal t = true) (hu : scal u = true) (hc : w.cell? a = some v) (hd : w.cell? b = some v') (h : R (.returned (.tuple #[v, v'])) w) : RetK Try.prog [.cell (.pointer (some a)) t, .cell (.pointer (some b)) u] R w :=
  ⟨.tuple #[v, v'], by simp [resSem, asAddr, loadVar, scal_agg ht, scal_agg hu, hc, hd], h⟩
theorem Lv_ret39 {p c : Value} {rs : List RV} {R : Ending → World → Prop} {w : World} (h : RetK Try.prog rs R w) : Lv Try.prog rs R [{ target := .fn (.func 39) #[], args := #[p, c] }] .returning w :=
  ⟨rfl, Try.call39, (caught_idle39 p c w).mono (by rintro e u' w' ⟨rfl, rfl, rfl⟩; exact h)⟩
theorem Lv_pan39 {w0 : World} {L : List Own} {rs : List RV} {R : Ending → World → Prop} {w : World} (hS : St w0 L w) (i : Nat) {b : Nat} {t : TypeId} {x n : Int} (hi : L[i]? = some (.bx b t #[.int .i64 x]))
    {fc : FuncId} {caps : Array Value} (Rc : World → Prop) (hf : ∀ args w, (callFunc fc args).run Try.prog w = .ok (.enter fc args) w)
    (hcl : ∀ W, St w0 (L.set i (.bx b t #[.int .i64 n])) W → Calls Try.prog fc caps W fun e w' => e = .returned unit ∧ Rc w') (h : ∀ W, Rc W → RetK Try.prog rs R W) :
    Lv Try.prog rs R [{ target := .fn (.func 39) #[], args := #[.pointer (some ⟨b, 0, none⟩), .func (.func fc) #[] caps] }] (.panicking [pe n false]) w :=
  ⟨rfl, Try.call39, (caught_panics39 ⟨b, 0, none⟩ x n fc caps Rc w (hS.cell i hi 0 rfl) (hS.unfrozen i hi 0) hf (hcl _ (hS.setCell i hi 0 _))).mono (by rintro e u' w' ⟨rfl, rfl, hR⟩; exact h _ hR)⟩

theorem Encode18 (rows : List AV) (w : World) (lo : Option Addr) (lc : Nat) (hl : Sl w lo 3 (rows.map vVal)) (hr : ∀ r ∈ rows, Rng r) (hb : rows.length ≤ 10000) (R : Ending → World → Prop)
    (h0 : encE rows = 0 → ∀ x W, Below w.heap.size w W → W.ownsRow w.heap.size 5 1 x (encB rows).length ((encB rows).map vB) → R (.returned (.tuple #[x, .int .i64 0])) W)
    (h1 : encE rows ≠ 0 → ∀ W, Below w.heap.size w W → R (.returned (.tuple #[.slice none 0 0, .int .i64 (encE rows)])) W) : Calls Try.prog 18 #[.slice lo rows.length lc] w R := by
  refine c18 _ _ _ _ _ ?_
  unfold vc18
  refine kAlloc_st Try.zeroValue38 (St.start w) fun b2 W hS => kAlloc_st Try.zeroValue28 hS fun b3 W hS => ?_
  refine kCall_i (Try.call41 _ _) (encoded41 rows _ _ _ (hl.below hS.below) hr hb _ (fun he x W' hB ho => ?_) (fun he W' hB => ?_))
  · have hS := hS.made hB ho
    have hrow : W'.ownsRow w.heap.size 5 1 x _ _ := hS.get 2 rfl
    have hval : x.cells = #[x] ∧ x.oneCell' = true := by
      rcases hrow.2 with ⟨h, _⟩ | ⟨g, cap, cur, h, _⟩ <;> rw [h] <;> exact ⟨rfl, rfl⟩
    refine kSt hS 0 rfl (by simp [Value.cells]) hval.1 hval.2 rfl fun W hS => kSt hS 1 rfl (by simp [Value.cells]) rfl rfl rfl fun W hS => Lv_ret39 (RetK_cell2 rfl rfl (hS.cell 0 rfl 0 rfl) (hS.cell 1 rfl 0 rfl) ?_)
    exact h0 he x _ hS.below (hS.get 2 rfl)
  · have hS := hS.bel hB
    refine Lv_pan39 hS 1 rfl (fun W => St w [Own.bx b2 38 #[.slice none 0 0], Own.bx b3 28 #[.int .i64 (encE rows)]] W) Try.call40 (fun W hS => ?_) (fun W hS => RetK_cell2 rfl rfl (hS.cell 0 rfl 0 rfl) (hS.cell 1 rfl 0 rfl) (h1 he _ hS.below))
    refine c40 _ _ _ ?_
    unfold vc40
    exact kSt hS 0 rfl (by simp [Value.cells]) rfl rfl rfl fun W hS => ⟨rfl, hS⟩
end Go.L
namespace Go.L
open Go Go.RowKit Go.Proofs
set_option linter.unusedSimpArgs false
set_option linter.unusedVariables false

theorem RetK_agg {R : Ending → World → Prop} {w w0 : World} {L : List Own} (hS : St w0 L w) (i : Nat) {b : Nat} {cs : Array Value} (hi : L[i]? = some (.bx b 49 cs)) (hn : cs.size = 3) (h : R (.returned (.agg cs)) w) : RetK Try.prog [.cell (.pointer (some ⟨b, 0, none⟩)) 49] R w := by
  refine ⟨.agg cs, ?_, h⟩
  have := run_loadVar_row (P := Try.prog) w b 49 49 cs (0, 0) _ (hS.get i hi).2 Try.underlying49 rfl (by rw [info_of (Try.typeInfo49 w), hn]; rfl)
  simp [resSem, asAddr, this]
theorem built49n (t n : Int) : Try.prog.built 49 [(0, .int .i64 t), (1, .int .i64 n)] = some #[.int .i64 t, .int .i64 n, .string ⟨#[]⟩] := by
  have h1 := info_of (Try.typeInfo49 default)
  have h2 := info_of (Try.typeInfo47 default)
  have h3 := info_of (Try.typeInfo2 default)
  have h4 := info_of (Try.typeInfo9 default)
  simp [Program.built, h1, Try.underlying49, Try.t49, h2, h3, h4, Try.t47, Try.t2, Try.t9, Instr.fill]
  exact ⟨⟨rfl, Nat.le_of_ble_eq_true rfl⟩, ⟨rfl, Nat.le_of_ble_eq_true rfl⟩, rfl⟩
theorem of32 (n : Int) (w : World) (R : Ending → World → Prop) (h : ∀ W, Below w.heap.size w W → R (.returned (vVal (2, n, ⟨#[]⟩))) W) : Calls Try.prog 32 #[.int .i64 n] w R := by
  refine c32 _ _ _ ?_
  unfold vc32
  refine kAlloc_st Try.zeroValue49 (St.start w) fun b W hS => kBuild_i (cs := #[.int .i64 2, .int .i64 n, .string ⟨#[]⟩]) (built49n 2 n) (kStoreA_st hS 0 rfl rfl (by simp [Value.oneCell']) Try.sizeOf49 fun W hS => ?_)
  exact RetK_agg hS 0 rfl rfl (h _ hS.below)

def widthN (rows : List AV) : Int := if encE rows = 0 then (encB rows).length else 0
theorem Width33 (rows : List AV) (w : World) (lo : Option Addr) (lc : Nat) (hl : Sl w lo 3 (rows.map vVal)) (hr : ∀ r ∈ rows, Rng r) (hb : rows.length ≤ 10000) (R : Ending → World → Prop)
    (h : ∀ W, Below w.heap.size w W → R (.returned (.int .i64 (widthN rows))) W) : Calls Try.prog 33 #[.slice lo rows.length lc] w R := by
  refine c33 _ _ _ _ _ ?_
  unfold vc33
  refine kCall_i (Try.call18 _ _) (Encode18 rows w lo lc hl hr hb _ (fun he x W hB ho => ?_) (fun he W hB => ?_))
  · have := h W hB
    rw [widthN, if_pos he] at this
    rcases ho.2 with ⟨hx, hn⟩ | ⟨g, cap, cur, hx, _⟩ <;> subst hx
    · refine kExt_0 (kExt_1 (kLen38 ?_))
      rw [hn] at this; exact this
    · exact kExt_0 (kExt_1 (kLen38 this))
  · have := h W hB
    rw [widthN, if_neg he] at this
    exact kExt_0 (kExt_1 (kLen38 this))
end Go.L
namespace Go.L
open Go Go.RowKit Go.Proofs
set_option linter.unusedSimpArgs false
set_option linter.unusedVariables false

/-- A slice of bytes, as it reads. -/
structure Bs (W : World) (a : Option Addr) (n cp : Nat) (bs : List Nat) : Prop where
  sl : Sl W a 1 (bs.map vB)
  len : n = bs.length
  cap : n ≤ cp
theorem Bs.keep {W W' : World} {a : Option Addr} {n cp : Nat} {bs : List Nat} (h : Bs W a n cp bs) (hB : Below W.heap.size W W') : Bs W' a n cp bs := ⟨h.sl.below hB, h.len, h.cap⟩
theorem flat_vB (bs : List Nat) : (bs.map vB).flatMap (·.cells.toList) = bs.map vB := by
  induction bs with
  | nil => rfl
  | cons b l ih => rw [List.map_cons, List.flatMap_cons, ih]; rfl
theorem Bs.drop {W : World} {a : Option Addr} {n cp : Nat} {bs : List Nat} (h : Bs W a n cp bs) {l : Nat} (hl : l ≤ n) : Bs W (if cp = l then a else a.map (·.add (l * 1))) (n - l) (cp - l) (bs.drop l) := by
  refine ⟨⟨fun v hv => by obtain ⟨z, _, rfl⟩ := List.mem_map.1 hv; rfl, ?_⟩, by rw [List.length_drop, h.len], by have := h.cap; omega⟩
  rcases Nat.lt_or_ge l n with h1 | h1
  · right
    rcases h.sl.at_ with he | ⟨b, o, ha, hb, hr⟩
    · have := h.len; rw [List.map_eq_nil_iff] at he; subst he; simp at this; omega
    · refine ⟨b, o + l, ?_, hb, ?_⟩
      · rw [if_neg (by have := h.cap; omega), ha]; simp [Addr.add_mid]
      · rw [flat_vB] at hr ⊢
        intro j v hj
        have := hr (l + j) v (by rw [← hj, List.map_drop, List.getElem?_drop])
        rwa [← Nat.add_assoc] at this
  · left; rw [List.drop_eq_nil_of_le (by rw [← h.len]; exact h1)]; rfl
theorem Bs.take {W : World} {a : Option Addr} {n cp : Nat} {bs : List Nat} (h : Bs W a n cp bs) {l m : Nat} (hl : l ≤ n) (hm : l ≤ m) : Bs W (if m = 0 then a else a.map (·.add (0 * 1))) l m (bs.take l) := by
  have e : (if m = 0 then a else a.map (·.add (0 * 1))) = a := by
    split
    · rfl
    · cases a <;> simp [Addr.add]
  rw [e]
  refine ⟨⟨fun v hv => by obtain ⟨z, _, rfl⟩ := List.mem_map.1 hv; rfl, ?_⟩, by rw [List.length_take, ← h.len]; omega, hm⟩
  rcases h.sl.at_ with he | ⟨b, o, ha, hb, hr⟩
  · left; rw [List.map_eq_nil_iff] at he; subst he; simp
  · right
    refine ⟨b, o, ha, hb, ?_⟩
    rw [flat_vB] at hr ⊢
    intro j v hj
    refine hr j v ?_
    rw [List.map_take] at hj
    have hlt := (List.getElem?_eq_some_iff.1 hj).1
    rwa [List.getElem?_take_of_lt (by simp at hlt; omega)] at hj
end Go.L
namespace Go.L
open Go Go.RowKit Go.Proofs
set_option linter.unusedSimpArgs false
set_option linter.unusedVariables false

section
variable {X : Chain → World → Prop} {q : Bool} {w : World} {k : Value → World → Prop} {a : Option Addr} {n cp : Nat}
theorem kSl38_l {l : Nat} (h1 : l ≤ n) (h : k (.slice (if cp = l then a else a.map (·.add (l * 1))) (n - l) (cp - l)) w) : kSl ⟨Try.prog, X, q⟩ w 38 (.slice a n cp) (some (.int .i64 l)) none none k :=
  ⟨kVal_pure (c := ⟨Try.prog, X, q⟩) (fun w' => by
    rw [run_sliceAt_slice w' 38 _ _ _ _ (elem_of Try.underlying38), run_slice_l w' 38 a n cp (elem_of Try.underlying38) .i64 l (by omega) (by omega)]
    rw [show Try.prog.elem 38 = 5 by simp [Program.elem, Try.underlying38], Try.sizeOf5]
    rfl) h⟩
theorem kSl38_hm {l : Nat} (h1 : l ≤ cp) (h : k (.slice (if l = 0 then a else a.map (·.add (0 * 1))) l l) w) : kSl ⟨Try.prog, X, q⟩ w 38 (.slice a n cp) none (some (.int .i64 l)) (some (.int .i64 l)) k :=
  ⟨kVal_pure (c := ⟨Try.prog, X, q⟩) (fun w' => by
    rw [run_sliceAt_slice w' 38 _ _ _ _ (elem_of Try.underlying38), run_slice_hm w' 38 a n cp (elem_of Try.underlying38) .i64 .i64 l l (by omega) (by omega) (by omega)]
    rw [show Try.prog.elem 38 = 5 by simp [Program.elem, Try.underlying38], Try.sizeOf5]
    rfl) h⟩
theorem kSl38_h {l : Nat} (h1 : l ≤ cp) (h : k (.slice (if cp = 0 then a else a.map (·.add (0 * 1))) l cp) w) : kSl ⟨Try.prog, X, q⟩ w 38 (.slice a n cp) none (some (.int .i64 l)) none k :=
  ⟨kVal_pure (c := ⟨Try.prog, X, q⟩) (fun w' => by
    rw [run_sliceAt_slice w' 38 _ _ _ _ (elem_of Try.underlying38), run_slice_h w' 38 a n cp (elem_of Try.underlying38) .i64 l (by omega) (by omega)]
    rw [show Try.prog.elem 38 = 5 by simp [Program.elem, Try.underlying38], Try.sizeOf5]
    rfl) h⟩
end

theorem kFa81 {X : Chain → World → Prop} {q : Bool} {w : World} {b o : Nat} {k : Value → World → Prop} (h : k (.pointer (some ⟨b, o, none⟩)) w) : kFa ⟨Try.prog, X, q⟩ w 81 (.pointer (some ⟨b, o, none⟩)) 0 k :=
  kFa_i (c := ⟨Try.prog, X, q⟩) Try.underlying81 rfl (n := 0) Try.sizeOf38 h
theorem kFa83 {X : Chain → World → Prop} {q : Bool} {w : World} {b o : Nat} {k : Value → World → Prop} (h : k (.pointer (some ⟨b, o, none⟩)) w) : kFa ⟨Try.prog, X, q⟩ w 83 (.pointer (some ⟨b, o, none⟩)) 0 k :=
  kFa_i (c := ⟨Try.prog, X, q⟩) Try.underlying83 rfl (n := 0) Try.sizeOf81 h

/-- '(*left).take' of the row's reader. -/
theorem take81 {w0 W : World} {L : List Own} (hS : St w0 L W) (i : Nat) {b : Nat} {t : TypeId} {a : Option Addr} {n cp : Nat} (hi : L[i]? = some (.bx b t #[.slice a n cp])) (hcap : n ≤ cp) (l : Nat) (hn : n ≤ 9223372036854775807) (R : Ending → World → Prop)
    (h0 : l ≤ n → ∀ W', St w0 (L.set i (.bx b t #[.slice (if cp = l then a else a.map (·.add (l * 1))) (n - l) (cp - l)])) W' → R (.returned (.slice (if l = 0 then a else a.map (·.add (0 * 1))) l l)) W')
    (h1 : n < l → R (.panicked [pe 210 false]) W) : Calls Try.prog 81 #[.pointer (some ⟨b, 0, none⟩), .int .i64 l] W R := by
  refine c81 _ _ _ _ ?_
  unfold vc81
  refine kNil_p (kFa81 (kLd hS i hi rfl rfl (kLen38 (kBin_leq (kCall_i (Try.call44 _ _) (must44 _ _ _ _ (fun hok => ?_) (fun hbad => ?_)))))))
  · have hl : l ≤ n := by simp at hok; omega
    refine kNil_p (kFa81 (kLd hS i hi rfl rfl (kSl38_hm (by omega) (kNil_p (kFa81 (kLd hS i hi rfl rfl (kSl38_l hl (kNil_p (kFa81 (kSt hS i hi (by simp) rfl rfl rfl fun W' hS' => ?_))))))))))
    exact h0 hl W' hS'
  · exact h1 (by simp at hbad; omega)
end Go.L
namespace Go.L
open Go Go.RowKit Go.Proofs
set_option linter.unusedSimpArgs false
set_option linter.unusedVariables false

/-- A number as it is read: its value and how many bytes it takes. -/
def readF : Nat → List Nat → Nat → Option (Nat × Nat)
  | _, [], _ => none
  | i, b :: bs, acc =>
    if 10 ≤ i then none
    else if i = 9 ∧ 1 < b then none
    else if 128 ≤ b then readF (i + 1) bs (acc + (b % 128) * 128 ^ i)
    else if b = 0 ∧ 0 < i then none
    else some (acc + b * 128 ^ i, i + 1)
def readN (bs : List Nat) : Option (Nat × Nat) := readF 0 bs 0

theorem andNot128 (b : Nat) (hb : b < 256) : bits .andNot .u8 (b : Int) 128 = ((b % 128 : Nat) : Int) := by
  have h : ∀ x : Nat, x < 256 → bits .andNot .u8 (x : Int) 128 = ((x % 128 : Nat) : Int) := by decide +kernel
  exact h b hb
theorem u64_wrap {n : Nat} (h : n < 18446744073709551616) : IntKind.u64.wrap (n : Int) = n := by
  simp [IntKind.wrap, IntKind.bits, IntKind.signed]; omega
theorem or_add64 (acc x s : Nat) (ha : acc < 2 ^ s) (hx : acc + x * 2 ^ s < 18446744073709551616) : bits .or .u64 (acc : Int) ((x * 2 ^ s : Nat) : Int) = ((acc + x * 2 ^ s : Nat) : Int) := by
  have h1 : ((BitVec.ofInt 64 (acc : Int)) ||| (BitVec.ofInt 64 ((x * 2 ^ s : Nat) : Int))).toNat = acc + x * 2 ^ s := by
    rw [BitVec.toNat_or, BitVec.toNat_ofInt, BitVec.toNat_ofInt]
    have e1 : ((acc : Int) % ((2 ^ 64 : Nat) : Int)).toNat = acc := by omega
    have e2 : (((x * 2 ^ s : Nat) : Int) % ((2 ^ 64 : Nat) : Int)).toNat = x * 2 ^ s := by omega
    rw [e1, e2, Nat.mul_comm x, Nat.or_comm, ← Nat.two_pow_add_eq_or_of_lt ha, Nat.add_comm]
  show IntKind.u64.wrap (((BitVec.ofInt 64 (acc : Int)) ||| (BitVec.ofInt 64 ((x * 2 ^ s : Nat) : Int))).toNat : Int) = _
  rw [h1]; exact u64_wrap hx

theorem kIa38 {X : Chain → World → Prop} {q : Bool} {w : World} {b o n cp : Nat} {i : Nat} {k : Value → World → Prop} (hi : i < n) (h : k (.pointer (some ⟨b, o + i * 1, none⟩)) w) : kIa ⟨Try.prog, X, q⟩ w 38 (.slice (some ⟨b, o, none⟩) n cp) (.int .i64 i) k :=
  kIa_sl (c := ⟨Try.prog, X, q⟩) Try.underlying38 Try.sizeOf5 hi h
theorem kBin_andNot {c : Cx} {w : World} {k : Value → World → Prop} {t : TypeId} {q : IntKind} {a b : Int} (h : k (.int q (bits .andNot q a b)) w) : kBin c w .andNot t (.int q a) (.int q b) k := ⟨kVal_pure (fun _ => by rw [binOp_andNot, intBits_andNot]; rfl) h⟩
theorem kCv5_84 {X : Chain → World → Prop} {q : Bool} {w : World} {k : Value → World → Prop} {a : Nat} (ha : a < 256) (h : k (.int .u64 (a : Int)) w) : kConv ⟨Try.prog, X, q⟩ w 5 84 (.int .u8 a) k :=
  kConv_int (c := ⟨Try.prog, X, q⟩) (q' := .u64) (by rw [show (Cx.mk Try.prog X q).P.underlying 5 = _ from Try.underlying5]; rfl) Try.underlying84 (by rw [u64_wrap (by omega)]; exact h)
end Go.L
namespace Go.L
open Go Go.RowKit Go.Proofs
set_option linter.unusedSimpArgs false
set_option linter.unusedVariables false

theorem pow128 (i : Nat) : 128 ^ i = 2 ^ (7 * i) := by rw [show (128 : Nat) = 2 ^ 7 by decide, ← Nat.pow_mul]
theorem readF_ge {i : Nat} (hi : 10 ≤ i) (bs : List Nat) (acc : Nat) : readF i bs acc = none := by
  cases bs with
  | nil => rfl
  | cons b l => rw [readF, if_pos hi]

theorem readNum80 {W : World} {a : Option Addr} {n cp : Nat} {bs : List Nat} (hB : Bs W a n cp bs) (hbyte : ∀ b ∈ bs, b < 256) (hn : cp ≤ 9223372036854775807) (R : Ending → World → Prop)
    (h : ∀ x m, readN bs = some (x, m) → R (.returned (.tuple #[.int .u64 (x : Nat), .int .i64 (m : Nat), .int .i64 0])) W)
    (h' : readN bs = none → R (.returned (.tuple #[.int .u64 0, .int .i64 0, .int .i64 130])) W) : Calls Try.prog 80 #[.slice a n cp] W R := by
  refine c80 _ _ _ _ _ ?_
  unfold vc80
  have hcap := hB.cap
  have hlen := hB.len
  obtain ⟨p, hp⟩ : ∃ p : Nat, p = min n 10 := ⟨_, rfl⟩
  have hp2 : (if (10 : Int) < (n : Int) then (10 : Int) else (n : Int)) = (p : Int) := by split <;> omega
  refine kLen38 (kMin2 ?_)
  rw [hp2]
  refine kSl38_h (by omega) (kLen38 ?_)
  have hT := hB.take (l := p) (m := cp) (by omega) (by omega)
  generalize (if cp = 0 then a else a.map (·.add (0 * 1))) = a' at hT ⊢
  refine ⟨⟨fun cs V => V = W ∧ ∃ (i acc : Nat), cs = [.int .u64 acc, .int .i64 i] ∧ i ≤ p ∧ acc < 128 ^ i ∧ readN bs = readF i (bs.drop i) acc,
    fun cs _ => p - (match cs with | [_, .int _ i] => i.toNat | _ => 0), ⟨rfl, 0, 0, rfl, by omega, by simp, rfl⟩, ?_⟩⟩
  rintro cs ds V ⟨rfl, i, acc, rfl, hip, hacc, heq⟩
  dsimp only [List.getD_cons_zero, List.getD_cons_succ]
  refine kBin_lss (kIf_d (fun hlt => ?_) (fun hge => ?_))
  · have hi' : i < p := by omega
    have hib : i < bs.length := by omega
    have hb256 := hbyte _ (List.getElem_mem hib)
    have hdrop : readN bs = readF i (bs[i] :: bs.drop (i + 1)) acc := by rw [heq, List.drop_eq_getElem_cons hib]
    rw [readF, if_neg (by omega)] at hdrop
    obtain ⟨pb, po, rfl, hpb, hpr⟩ := hT.sl.elem (i := i) (v := vB bs[i]) (by rw [List.getElem?_map, List.getElem?_take_of_lt hi', List.getElem?_eq_getElem hib]; rfl)
    refine kIa38 hi' (kLdS rfl (hpr 0 _ rfl) (kJn_inv (fun cs V' => V' = V ∧ ¬ (i = 9 ∧ 1 < bs[i])) ?_ ?_))
    · rintro cs V ⟨rfl, hno⟩ ds
      rw [if_neg hno] at hdrop
      refine kBin_andNot ?_
      rw [andNot128 _ hb256]
      refine kCv5_84 (by omega) (kBin_mul ?_)
      rw [wrap_id (by omega) (by omega)]
      have hi9 : i ≤ 9 := by omega
      have hpi : (7 * (i : Int)).toNat = 7 * i := by omega
      have hx : acc + bs[i] % 128 * 128 ^ i < 18446744073709551616 := by
        rcases Nat.lt_or_ge i 9 with h1 | h1
        · have h2 : acc + bs[i] % 128 * 128 ^ i < 128 ^ (i + 1) := by
            have : bs[i] % 128 * 128 ^ i ≤ 127 * 128 ^ i := Nat.mul_le_mul_right _ (by omega)
            rw [Nat.pow_succ]; omega
          have h3 : 128 ^ (i + 1) ≤ 128 ^ 9 := Nat.pow_le_pow_right (by omega) (by omega)
          have : (128 : Nat) ^ 9 = 9223372036854775808 := by decide
          omega
        · have h9 : i = 9 := by omega
          have hb1 : bs[i] ≤ 1 := by omega
          have : (128 : Nat) ^ 9 = 9223372036854775808 := by decide
          have hm : bs[i] % 128 * 128 ^ i ≤ 1 * 128 ^ i := Nat.mul_le_mul_right _ (by omega)
          have h128 : 128 ^ i = 9223372036854775808 := by rw [h9]
          omega
      refine kBin_shl (by omega) (by simp [IntKind.bits]; omega) ?_
      rw [hpi]
      have hsh : IntKind.u64.wrap (((bs[i] % 128 : Nat) : Int) * 2 ^ (7 * i)) = ((bs[i] % 128 * 2 ^ (7 * i) : Nat) : Int) := by
        rw [← u64_wrap (n := bs[i] % 128 * 2 ^ (7 * i)) (by rw [← pow128]; omega)]
        congr 1
      rw [hsh]
      refine kBin_or ?_
      rw [or_add64 _ _ _ (by rw [← pow128]; exact hacc) (by rw [← pow128]; exact hx), ← pow128]
      refine kBin_geq (kIf_d (fun hbig => ?_) (fun hsm => ?_))
      · rw [if_pos (by omega)] at hdrop
        refine kBin_add (kD_i ⟨⟨rfl, i + 1, _, by rw [wrap_id (by omega) (by omega)]; rfl, hi', ?_, hdrop⟩, ?_⟩)
        · have : bs[i] % 128 * 128 ^ i ≤ 127 * 128 ^ i := Nat.mul_le_mul_right _ (by omega)
          rw [Nat.pow_succ]; omega
        · rw [wrap_id (by omega) (by omega)]; show p - ((i : Int) + 1).toNat < p - (i : Int).toNat; omega
      · rw [if_neg (by omega)] at hdrop
        refine kJn_inv (fun cs V' => V' = V ∧ ¬ (bs[i] = 0 ∧ 0 < i)) ?_ ?_
        · rintro cs V ⟨rfl, hno2⟩ ds
          rw [if_neg hno2] at hdrop
          refine kBin_add ?_
          rw [wrap_id (by omega) (by omega), show bs[i] % 128 = bs[i] by omega]
          exact h _ _ hdrop
        · intro J hJ
          refine kEq_int (kIf_eq (fun e0 => kBin_gtr (kIf_d (fun g => ?_) (fun g => kD_i (hJ _ _ ⟨rfl, by omega⟩)))) (fun e0 => kIf_f (kD_i (hJ _ _ ⟨rfl, by omega⟩))))
          rw [if_pos (by omega)] at hdrop
          exact h' hdrop
    · intro J hJ
      refine kEq_int (kIf_eq (fun e9 => kBin_gtr (kIf_d (fun g => ?_) (fun g => kD_i (hJ _ _ ⟨rfl, by omega⟩)))) (fun e9 => kIf_f (kD_i (hJ _ _ ⟨rfl, by omega⟩))))
      rw [if_pos (by omega)] at hdrop
      exact h' hdrop
  · refine h' ?_
    rw [heq]
    have : i = p := by omega
    by_cases h10 : 10 ≤ i
    · exact readF_ge h10 _ _
    · rw [List.drop_eq_nil_of_le (by omega)]; rfl
end Go.L
namespace Go.L
open Go Go.RowKit Go.Proofs
set_option linter.unusedSimpArgs false
set_option linter.unusedVariables false

theorem readF_le : ∀ (bs : List Nat) (i acc x m : Nat), readF i bs acc = some (x, m) → i < m ∧ m ≤ i + bs.length ∧ m ≤ 10
  | [], i, acc, x, m, h => by simp [readF] at h
  | b :: bs, i, acc, x, m, h => by
    rw [readF] at h
    split at h
    · cases h
    split at h
    · cases h
    split at h
    · have := readF_le bs (i + 1) _ x m h
      simp only [List.length_cons]; omega
    split at h
    · cases h
    · cases h; simp; omega
theorem readN_le {bs : List Nat} {x m : Nat} (h : readN bs = some (x, m)) : 0 < m ∧ m ≤ bs.length ∧ m ≤ 10 := by
  have := readF_le bs 0 0 x m h; omega

theorem kExt3_0 {a b c : Value} {k : Value → Prop} (h : k a) : kExt (.tuple #[a, b, c]) 0 k := kExt_i rfl h
theorem kExt3_1 {a b c : Value} {k : Value → Prop} (h : k b) : kExt (.tuple #[a, b, c]) 1 k := kExt_i rfl h
theorem kExt3_2 {a b c : Value} {k : Value → Prop} (h : k c) : kExt (.tuple #[a, b, c]) 2 k := kExt_i rfl h

/-- '(*reader).number'. -/
theorem number43 {w0 W : World} {L : List Own} (hS : St w0 L W) (i : Nat) {b : Nat} {t : TypeId} {a : Option Addr} {n cp : Nat} {bs : List Nat} (hi : L[i]? = some (.bx b t #[.slice a n cp])) (hB : Bs W a n cp bs) (hbyte : ∀ b ∈ bs, b < 256) (hn : cp ≤ 9223372036854775807) (R : Ending → World → Prop)
    (h0 : ∀ x m, readN bs = some (x, m) → ∀ W', St w0 (L.set i (.bx b t #[.slice (if cp = m then a else a.map (·.add (m * 1))) (n - m) (cp - m)])) W' → R (.returned (.int .u64 (x : Nat))) W')
    (h1 : readN bs = none → R (.panicked [pe 210 false]) W) : Calls Try.prog 43 #[.pointer (some ⟨b, 0, none⟩)] W R := by
  refine c43 _ _ _ ?_
  unfold vc43
  have hcap := hB.cap
  have hlen := hB.len
  refine kNil_p (kFa83 (kFa81 (kLd hS i hi rfl rfl (kCall_i (Try.call80 _ _) (readNum80 hB hbyte hn _ (fun x m hr => ?_) (fun hr => ?_))))))
  · have hm := readN_le hr
    refine kExt3_0 (kExt3_1 (kExt3_2 (kEq_int (kCall_i (Try.call44 _ _) (must44 _ _ _ _ (fun _ => ?_) (fun hbad => by simp at hbad))))))
    refine kNil_p (kFa83 (kCall_i (Try.call81 _ _) (take81 hS i hi hcap m (by omega) _ (fun _ W' hS' => ?_) (fun hlt => by omega))))
    exact h0 x m hr W' hS'
  · refine kExt3_0 (kExt3_1 (kExt3_2 (kEq_int (kCall_i (Try.call44 _ _) (must44 _ _ _ _ (fun hok => by simp at hok) (fun _ => ?_))))))
    exact h1 hr
end Go.L
namespace Go.L
open Go Go.RowKit Go.Proofs
set_option linter.unusedSimpArgs false
set_option linter.unusedVariables false

theorem kDrawn_i {A : Prop} (h : A) : kDrawn true A := ⟨rfl, h⟩
theorem kDrew_st {w0 w : World} {L : List Own} {f : World → Prop} (hS : St w0 L w) (h : ∀ W, St w0 L W → f W) : kDrew w f := ⟨fun n => h _ (hS.drewN n)⟩
theorem kSame_i {v : Value} {A : Prop} (h : A) : kSame v v A := ⟨rfl, h⟩
theorem kBoth_i {A B : Prop} (h : A) (h' : B) : kBoth A B := ⟨h, h'⟩

/-- The text of bytes. -/
def mkS (bs : List Nat) : ByteArray := ⟨(bs.map UInt8.ofNat).toArray⟩
theorem mkS_size (bs : List Nat) : (mkS bs).size = bs.length := by simp [mkS, ByteArray.size]
theorem bl_mkS {bs : List Nat} (h : ∀ b ∈ bs, b < 256) : bl (mkS bs) = bs := by
  simp only [bl, mkS, List.map_map]
  conv => rhs; rw [← List.map_id bs]
  apply List.map_congr_left
  intro b hb
  simp [Nat.mod_eq_of_lt (h b hb)]
theorem mkS_bl (s : ByteArray) : mkS (bl s) = s := by
  obtain ⟨⟨l⟩⟩ := s
  simp [mkS, bl, Function.comp_def]
theorem kCv_str {X : Chain → World → Prop} {q : Bool} {W : World} {k : Value → World → Prop} {a : Option Addr} {n cp : Nat} {bs : List Nat} (hB : Bs W a n cp bs) (h : k (.string (mkS bs)) W) : kConv ⟨Try.prog, X, q⟩ W 38 9 (.slice a n cp) k := by
  refine ⟨kVal_look (c := ⟨Try.prog, X, q⟩) (v := .string (mkS bs)) (fun m => ?_) h⟩
  have e : strOfNums (bs.map (fun (b : Nat) => (b : Int))) = mkS bs := by simp [strOfNums, mkS, Function.comp_def]
  rcases hB.sl.at_ with he | ⟨b, o, ha, hb, hr⟩
  · have : bs = [] := by simpa using he
    subst this
    have hn : n = 0 := by simpa using hB.len
    subst hn
    cases a with
    | none => exact run_convert_bytes_nil (P := Try.prog) (W.drewN m) 38 5 Try.underlying38 Try.underlying5 _ _ 9 Try.underlying9
    | some a =>
      rw [run_convert_bytes_string (P := Try.prog) (W.drewN m) 38 9 5 _ 0 cp Try.underlying38 Try.underlying5 Try.underlying9, run_bytesToString (W.drewN m) a 0 cp [] (by simp [loadCells, loadCellsFrom])]
      rfl
  · subst ha
    rw [flat_vB] at hr
    rw [run_convert_bytes_arg (P := Try.prog) (W.drewN m) 38 5 Try.underlying38 Try.underlying5 b o n cp (bs.map (fun (b : Nat) => (b : Int))) (by simp [hB.len]) (fun i hi => ?_) 9 Try.underlying9, e]
    have hil : i < bs.length := by rw [← hB.len]; exact hi
    have := hr i (vB bs[i]) (by simp [hil])
    simp [hil]; exact this

def readS (bs : List Nat) : Option (List Nat × Nat) :=
  match readN bs with
  | some (x, m) => if x ≤ bs.length - m then some ((bs.drop m).take x, m + x) else none
  | none => none
theorem kFa153 {X : Chain → World → Prop} {q : Bool} {w : World} {b o : Nat} {k : Value → World → Prop} (h : k (.pointer (some ⟨b, o, none⟩)) w) : kFa ⟨Try.prog, X, q⟩ w 153 (.pointer (some ⟨b, o, none⟩)) 0 k :=
  kFa_i (c := ⟨Try.prog, X, q⟩) Try.underlying153 rfl (n := 0) Try.sizeOf38 h
theorem kFa155 {X : Chain → World → Prop} {q : Bool} {w : World} {b o : Nat} {k : Value → World → Prop} (h : k (.pointer (some ⟨b, o, none⟩)) w) : kFa ⟨Try.prog, X, q⟩ w 155 (.pointer (some ⟨b, o, none⟩)) 0 k :=
  kFa_i (c := ⟨Try.prog, X, q⟩) Try.underlying155 rfl (n := 0) Try.sizeOf153 h
theorem kCv84_3 {X : Chain → World → Prop} {q : Bool} {w : World} {k : Value → World → Prop} {a : Nat} (ha : a < 9223372036854775808) (h : k (.int .i64 (a : Int)) w) : kConv ⟨Try.prog, X, q⟩ w 84 3 (.int .u64 a) k :=
  kConv_int (c := ⟨Try.prog, X, q⟩) (q' := .i64) (by rw [show (Cx.mk Try.prog X q).P.underlying 84 = _ from Try.underlying84]; rfl) Try.underlying3 (by
    rw [wrap_id (by omega) (by omega)]; exact h)

theorem has118 {w0 W : World} {L : List Own} (hS : St w0 L W) (i : Nat) {b : Nat} {t : TypeId} {a : Option Addr} {n cp : Nat} (hi : L[i]? = some (.bx b t #[.slice a n cp])) (hn : n ≤ 9223372036854775807) (x : Nat) (R : Ending → World → Prop)
    (h : R (.returned (.bool (decide (x ≤ n)))) W) : Calls Try.prog 118 #[.pointer (some ⟨b, 0, none⟩), .int .u64 x] W R := by
  refine c118 _ _ _ _ ?_
  unfold vc118
  refine kNil_p (kFa153 (kLd hS i hi rfl rfl (kLen38 (kCv3_84 (by omega) (kBin_leq ?_)))))
  have e : decide ((x : Int) ≤ (n : Int)) = decide (x ≤ n) := by simp
  rw [e]; exact h
theorem take119 {w0 W : World} {L : List Own} (hS : St w0 L W) (i : Nat) {b : Nat} {t : TypeId} {a : Option Addr} {n cp : Nat} (hi : L[i]? = some (.bx b t #[.slice a n cp])) (hcap : n ≤ cp) (l : Nat) (hl : l ≤ n) (R : Ending → World → Prop)
    (h0 : ∀ W', St w0 (L.set i (.bx b t #[.slice (if cp = l then a else a.map (·.add (l * 1))) (n - l) (cp - l)])) W' → R (.returned (.slice (if l = 0 then a else a.map (·.add (0 * 1))) l l)) W') : Calls Try.prog 119 #[.pointer (some ⟨b, 0, none⟩), .int .i64 l] W R := by
  refine c119 _ _ _ _ ?_
  unfold vc119
  exact kNil_p (kFa153 (kLd hS i hi rfl rfl (kSl38_hm (by omega) (kNil_p (kFa153 (kLd hS i hi rfl rfl (kSl38_l hl (kNil_p (kFa153 (kSt hS i hi (by simp) rfl rfl rfl fun W' hS' => h0 W' hS'))))))))))

theorem readF_val : ∀ (bs : List Nat) (i acc x m : Nat), acc < 128 ^ i → (∀ b ∈ bs, b < 256) → readF i bs acc = some (x, m) → x < 18446744073709551616
  | [], i, acc, x, m, _, _, h => by simp [readF] at h
  | b :: bs, i, acc, x, m, ha, hb, h => by
    have hb0 := hb b (List.mem_cons_self ..)
    rw [readF] at h
    split at h
    · cases h
    rename_i h10
    split at h
    · cases h
    rename_i h9
    have hp9 : i ≤ 9 → 128 ^ i ≤ 128 ^ 9 := fun h => Nat.pow_le_pow_right (by omega) h
    have e9 : (128 : Nat) ^ 9 = 9223372036854775808 := by decide
    split at h
    · rename_i hbig
      refine readF_val bs (i + 1) _ x m ?_ (fun c hc => hb c (List.mem_cons_of_mem _ hc)) h
      have : b % 128 * 128 ^ i ≤ 127 * 128 ^ i := Nat.mul_le_mul_right _ (by omega)
      rw [Nat.pow_succ]; omega
    split at h
    · cases h
    · rename_i hsm _
      cases h
      rcases Nat.lt_or_ge i 9 with h1 | h1
      · have h2 : b * 128 ^ i ≤ 127 * 128 ^ i := Nat.mul_le_mul_right _ (by omega)
        have h3 : 128 ^ (i + 1) ≤ 128 ^ 9 := Nat.pow_le_pow_right (by omega) (by omega)
        rw [Nat.pow_succ] at h3
        omega
      · have h2 : i = 9 := by omega
        have h3 : b * 128 ^ i ≤ 1 * 128 ^ i := Nat.mul_le_mul_right _ (by omega)
        have := hp9 (by omega)
        omega
theorem readN_val {bs : List Nat} (hb : ∀ b ∈ bs, b < 256) {x m : Nat} (h : readN bs = some (x, m)) : x < 18446744073709551616 := readF_val bs 0 0 x m (by simp) hb h

theorem built153 (a : Option Addr) (n c : Nat) : Try.prog.built 153 [(0, .slice a n c)] = some #[.slice a n c] := by
  have h1 := info_of (Try.typeInfo153 default)
  have h2 := info_of (Try.typeInfo38 default)
  simp [Program.built, h1, Try.underlying153, Try.t153, h2, Try.t38, Instr.fill]
  exact ⟨⟨rfl, Nat.le_of_ble_eq_true rfl⟩, rfl⟩
theorem built155 (a : Option Addr) (n c : Nat) : Try.prog.built 155 [(0, .agg #[.slice a n c])] = some #[.slice a n c] := by
  have h1 := info_of (Try.typeInfo155 default)
  have h2 := info_of (Try.typeInfo153 default)
  simp [Program.built, h1, Try.underlying155, Try.t155, h2, Try.t153, Instr.fill]
  exact ⟨⟨rfl, Nat.le_of_ble_eq_true rfl⟩, rfl⟩
theorem readString82 {W : World} {a : Option Addr} {n cp : Nat} {bs : List Nat} (hB : Bs W a n cp bs) (hbyte : ∀ b ∈ bs, b < 256) (hn : cp ≤ 9223372036854775807) (R : Ending → World → Prop)
    (h : ∀ s m, readS bs = some (s, m) → ∀ W', Below W.heap.size W W' → R (.returned (.tuple #[.string (mkS s), .int .i64 (m : Nat), .int .i64 0])) W')
    (h' : readS bs = none → ∀ W', Below W.heap.size W W' → R (.returned (.tuple #[.string ⟨#[]⟩, .int .i64 0, .int .i64 130])) W') : Calls Try.prog 82 #[.slice a n cp] W R := by
  refine c82 _ _ _ _ _ ?_
  unfold vc82
  have hcap := hB.cap
  have hlen := hB.len
  cases hr : readN bs with
  | none =>
    have e : readS bs = none := by simp [readS, hr]
    refine kCall_i (Try.call80 _ _) (readNum80 hB hbyte hn _ (fun x m h2 => by rw [hr] at h2; cases h2) (fun _ => ?_))
    refine kExt3_0 (kExt3_1 (kExt3_2 (kSl38_l (l := 0) (by omega) (kBuild_i (built153 _ _ _) (kBuild_i (built155 _ _ _) ?_)))))
    exact kBox_st (St.start W) fun b W' hS => kJn_i (kNe_int (kIf_ne (fun _ => kIf_t (h' e _ hS.below)) (fun h0 => absurd h0 (by decide))))
  | some p =>
    obtain ⟨x, m⟩ := p
    have hm := readN_le hr
    have hx := readN_val hbyte hr
    refine kCall_i (Try.call80 _ _) (readNum80 hB hbyte hn _ (fun x' m' h2 => ?_) (fun h2 => by rw [hr] at h2; cases h2))
    rw [hr] at h2; cases h2
    have hD := hB.drop (l := m) (by omega)
    refine kExt3_0 (kExt3_1 (kExt3_2 (kSl38_l (l := m) (by omega) (kBuild_i (built153 _ _ _) (kBuild_i (built155 _ _ _) ?_)))))
    generalize (if cp = m then a else Option.map (fun x => x.add (m * 1)) a) = a' at hD ⊢
    refine kBox_st (St.start W) fun b W' hS => kJn_inv (fun cs V => St W [.bx b 155 #[.slice a' (n - m) (cp - m)]] V ∧ x ≤ n - m) ?_ ?_
    · rintro cs V ⟨hS, hle⟩ ds
      have e : readS bs = some ((bs.drop m).take x, m + x) := by simp [readS, hr]; omega
      refine kNil_p (kFa155 (kCv84_3 (by omega) (kCall_i (Try.call119 _ _) (take119 hS 0 rfl (by omega) x hle _ fun V' hS' => ?_))))
      have hT := (hD.keep (hS'.below)).take (l := x) (m := x) hle (Nat.le_refl _)
      refine kCv_str hT (kCv84_3 (by omega) (kBin_add ?_))
      rw [wrap_id (by omega) (by omega)]
      exact h _ _ e _ hS'.below
    · intro J hJ
      refine kNe_int (kIf_ne (fun h0 => absurd rfl h0) (fun _ => kNil_p (kFa155 (kCall_i (Try.call118 _ _) (has118 hS 0 rfl (by omega) x _ (kUn_not ?_))))))
      refine kIf_nd (fun hno => ?_) (fun hyes => kD_i (hJ _ _ ⟨hS, hyes⟩))
      exact h' (by simp [readS, hr]; omega) _ hS.below
end Go.L
namespace Go.L
open Go Go.RowKit Go.Proofs
set_option linter.unusedSimpArgs false
set_option linter.unusedVariables false

theorem at_l {L M : List Own} {i : Nat} {o : Own} (h : L[i]? = some o) : (L ++ M)[i]? = some o := by
  rw [List.getElem?_append_left (List.getElem?_eq_some_iff.1 h).1]; exact h
theorem at_r {L : List Own} {o : Own} : (L ++ [o])[L.length]? = some o := by simp
theorem set_l {L M : List Own} {i : Nat} {o : Own} (x : Own) (h : L[i]? = some o) : (L ++ M).set i x = L.set i x ++ M := List.set_append_left _ _ (List.getElem?_eq_some_iff.1 h).1
theorem set_r {L : List Own} {o : Own} (x : Own) : (L ++ [o]).set L.length x = L ++ [x] := by simp
theorem St.init {w0 W : World} {L M : List Own} (h : St w0 (L ++ M) W) : St w0 L W := by
  have := h.take L.length
  simpa using this
theorem kLdR {X : Chain → World → Prop} {q : Bool} {w0 w : World} {L : List Own} {k : Value → World → Prop} {t' : TypeId} {b : Nat} {t : TypeId} {cs : Array Value} (hS : St w0 (L ++ [.bx b t cs]) w) {off : Nat} {v : Value} (hv : cs[off]? = some v) (ht : scal t' = true) (h : k v w) :
    kLoad ⟨Try.prog, X, q⟩ w t' (.pointer (some ⟨b, off, none⟩)) k := kLd hS L.length at_r hv ht h
theorem kStR {X : Chain → World → Prop} {w0 w : World} {L : List Own} {t' : TypeId} {k : World → Prop} {b : Nat} {t : TypeId} {cs : Array Value} (hS : St w0 (L ++ [.bx b t cs]) w) {off : Nat} (hoff : off < cs.size) {v : Value} (hv : v.cells = #[v]) (h1 : v.oneCell' = true) (ht : scal t' = true)
    (h : ∀ W, St w0 (L ++ [.bx b t (cs.setIfInBounds off v)]) W → k W) : kStore ⟨Try.prog, X, false⟩ w t' (.pointer (some ⟨b, off, none⟩)) v k := kSt hS L.length at_r hoff hv h1 ht (fun W hS => h W (by rwa [set_r] at hS))

def unzig (x : Nat) : Int := if x % 2 = 0 then ((x / 2 : Nat) : Int) else -((x / 2 : Nat) : Int) - 1
def readV : List Nat → Option (AV × Nat)
  | [] => none
  | k :: rest =>
    if k = 0 then some ((0, 0, ⟨#[]⟩), 1)
    else if k = 1 then match rest with
      | [] => none
      | c :: _ => some ((1, (c : Int), ⟨#[]⟩), 2)
    else if k = 2 then match readN rest with
      | some (x, m) => some ((2, unzig x, ⟨#[]⟩), 1 + m)
      | none => none
    else if k = 3 ∨ k = 4 then match readS rest with
      | some (s, m) => some (((k : Int), 0, mkS s), 1 + m)
      | none => none
    else none

theorem bits_and_one64 (n : Nat) (hn : n < 18446744073709551616) : bits .and .u64 n 1 = ((n % 2 : Nat) : Int) := by
  have h1 : ((BitVec.ofInt 64 (n : Int)) &&& (BitVec.ofInt 64 1)).toNat = n % 2 := by
    rw [BitVec.toNat_and]
    show (BitVec.ofInt 64 (n : Int)).toNat &&& 1 = _
    rw [Nat.and_one_is_mod, BitVec.toNat_ofInt]; omega
  show IntKind.u64.wrap (((BitVec.ofInt 64 (n : Int)) &&& (BitVec.ofInt 64 1)).toNat : Int) = _
  rw [h1]; simp [IntKind.wrap, IntKind.bits, IntKind.signed]; omega
theorem xor_zeroI (a : Int) (h0 : -9223372036854775808 ≤ a) (h1 : a ≤ 9223372036854775807) : bits .xor .i64 a 0 = a := by
  have h : ((BitVec.ofInt 64 a) ^^^ (BitVec.ofInt 64 0)).toNat = (a % 18446744073709551616).toNat := by
    rw [show BitVec.ofInt 64 0 = 0#64 by rfl, BitVec.xor_zero, BitVec.toNat_ofInt]; rfl
  show IntKind.i64.wrap (((BitVec.ofInt 64 a) ^^^ (BitVec.ofInt 64 0)).toNat : Int) = a
  rw [h]; simp [IntKind.wrap, IntKind.bits, IntKind.signed]; omega
theorem xor_onesI (a : Int) (h0 : -9223372036854775808 ≤ a) (h1 : a ≤ 9223372036854775807) : bits .xor .i64 a (-1) = -a - 1 := by
  have h : ((BitVec.ofInt 64 a) ^^^ (BitVec.ofInt 64 (-1))).toNat = 18446744073709551615 - (a % 18446744073709551616).toNat := by
    rw [show BitVec.ofInt 64 (-1) = BitVec.allOnes 64 by rfl, BitVec.xor_allOnes, BitVec.toNat_not, BitVec.toNat_ofInt]; rfl
  show IntKind.i64.wrap (((BitVec.ofInt 64 a) ^^^ (BitVec.ofInt 64 (-1))).toNat : Int) = _
  rw [h]; simp [IntKind.wrap, IntKind.bits, IntKind.signed]; omega
theorem kNeg {c : Cx} {w : World} {k : Value → World → Prop} {q : IntKind} {a : Int} (h : k (.int q (q.wrap (-a))) w) : kUn c w .neg (.int q a) k := ⟨kVal_pure (fun _ => by simp [Op.unary, Op.intArith]) h⟩
theorem kCv5_47 {X : Chain → World → Prop} {q : Bool} {w : World} {k : Value → World → Prop} {a : Nat} (ha : a < 256) (h : k (.int .i64 (a : Int)) w) : kConv ⟨Try.prog, X, q⟩ w 5 47 (.int .u8 a) k :=
  kConv_int (c := ⟨Try.prog, X, q⟩) (q' := .i64) (by rw [show (Cx.mk Try.prog X q).P.underlying 5 = _ from Try.underlying5]; rfl) Try.underlying47 (by
    rw [wrap_id (by omega) (by omega)]; exact h)
theorem kCv5_2 {X : Chain → World → Prop} {q : Bool} {w : World} {k : Value → World → Prop} {a : Nat} (ha : a < 256) (h : k (.int .i64 (a : Int)) w) : kConv ⟨Try.prog, X, q⟩ w 5 2 (.int .u8 a) k :=
  kConv_int (c := ⟨Try.prog, X, q⟩) (q' := .i64) (by rw [show (Cx.mk Try.prog X q).P.underlying 5 = _ from Try.underlying5]; rfl) Try.underlying2 (by
    rw [wrap_id (by omega) (by omega)]; exact h)
theorem kCv84_2 {X : Chain → World → Prop} {q : Bool} {w : World} {k : Value → World → Prop} {a : Nat} (ha : a < 9223372036854775808) (h : k (.int .i64 (a : Int)) w) : kConv ⟨Try.prog, X, q⟩ w 84 2 (.int .u64 a) k :=
  kConv_int (c := ⟨Try.prog, X, q⟩) (q' := .i64) (by rw [show (Cx.mk Try.prog X q).P.underlying 84 = _ from Try.underlying84]; rfl) Try.underlying2 (by
    rw [wrap_id (by omega) (by omega)]; exact h)

/-- '(*left).take', what is left told as bytes. -/
theorem take81b {w0 W : World} {L : List Own} (hS : St w0 L W) (i : Nat) {b : Nat} {t : TypeId} {a : Option Addr} {n cp : Nat} {bs : List Nat} (hi : L[i]? = some (.bx b t #[.slice a n cp])) (hB : Bs w0 a n cp bs) (l : Nat) (hn : cp ≤ 9223372036854775807) (R : Ending → World → Prop)
    (h0 : l ≤ n → ∀ a' cp' a2 W', cp' ≤ cp → Bs w0 a' (n - l) cp' (bs.drop l) → Bs w0 a2 l l (bs.take l) → St w0 (L.set i (.bx b t #[.slice a' (n - l) cp'])) W' → R (.returned (.slice a2 l l)) W')
    (h1 : n < l → R (.panicked [pe 210 false]) W) : Calls Try.prog 81 #[.pointer (some ⟨b, 0, none⟩), .int .i64 l] W R :=
  take81 hS i hi hB.cap l (by have := hB.cap; omega) R (fun hl W' hS' => h0 hl _ _ _ W' (by omega) (hB.drop hl) (hB.take hl (Nat.le_refl _)) hS') h1

theorem number43b {w0 W : World} {L : List Own} (hS : St w0 L W) (i : Nat) {b : Nat} {t : TypeId} {a : Option Addr} {n cp : Nat} {bs : List Nat} (hi : L[i]? = some (.bx b t #[.slice a n cp])) (hB : Bs w0 a n cp bs) (hbyte : ∀ b ∈ bs, b < 256) (hn : cp ≤ 9223372036854775807) (R : Ending → World → Prop)
    (h0 : ∀ x m, readN bs = some (x, m) → ∀ a' cp' W', cp' ≤ cp → Bs w0 a' (n - m) cp' (bs.drop m) → St w0 (L.set i (.bx b t #[.slice a' (n - m) cp'])) W' → R (.returned (.int .u64 (x : Nat))) W')
    (h1 : readN bs = none → R (.panicked [pe 210 false]) W) : Calls Try.prog 43 #[.pointer (some ⟨b, 0, none⟩)] W R :=
  number43 hS i hi (hB.keep hS.below) hbyte hn R (fun x m hr W' hS' => h0 x m hr _ _ W' (by omega) (hB.drop (by have := readN_le hr; have := hB.len; omega)) hS') h1

theorem ret49 {X : Chain → World → Prop} {R : Ending → World → Prop} {w0 W : World} {L : List Own} {b : Nat} {v0 v1 v2 : Value} (hS : St w0 (L ++ [.bx b 49 #[v0, v1, v2]]) W) (h0 : v0.oneCell' = true) (h1 : v1.oneCell' = true) (h2 : v2.oneCell' = true) (h : ∀ W, St w0 (L ++ [.bx b 49 #[v0, v1, v2]]) W → R (.returned (.agg #[v0, v1, v2])) W) :
    kLoad ⟨Try.prog, X, false⟩ W 49 (.pointer (some ⟨b, 0, none⟩)) fun v w => kStore ⟨Try.prog, X, false⟩ w 49 (.pointer (some ⟨b, 0, none⟩)) v fun w' => RetK Try.prog [.cell (.pointer (some ⟨b, 0, none⟩)) 49] R w' := by
  refine kLoadA_st (c := ⟨Try.prog, X, false⟩) hS L.length at_r Try.underlying49 rfl Try.sizeOf49 rfl (kStoreA_st hS L.length at_r rfl (by simp [h0, h1, h2]) Try.sizeOf49 fun W hS => ?_)
  rw [set_r] at hS
  exact RetK_agg hS L.length at_r rfl (h _ hS)

theorem value45 {w0 W : World} {L : List Own} (hS : St w0 L W) (i : Nat) {b : Nat} {a : Option Addr} {n cp : Nat} {bs : List Nat} (hi : L[i]? = some (.bx b 83 #[.slice a n cp])) (hB : Bs w0 a n cp bs) (hbyte : ∀ b ∈ bs, b < 256) (hn : cp ≤ 9223372036854775807) (R : Ending → World → Prop)
    (h0 : ∀ r m, readV bs = some (r, m) → ∀ a' cp' W', cp' ≤ cp → Bs w0 a' (n - m) cp' (bs.drop m) → St w0 (L.set i (.bx b 83 #[.slice a' (n - m) cp'])) W' → R (.returned (vVal r)) W')
    (h1 : readV bs = none → ∀ a' n' cp' W', St w0 (L.set i (.bx b 83 #[.slice a' n' cp'])) W' → R (.panicked [pe 210 false]) W') : Calls Try.prog 45 #[.pointer (some ⟨b, 0, none⟩)] W R := by
  have hlen := hB.len
  refine c45 _ _ _ ?_
  unfold vc45
  refine kAlloc_st Try.zeroValue49 hS fun b2 W hS => ?_
  have hS : St w0 (L ++ [.bx b2 49 #[.int .i64 0, .int .i64 0, .string ⟨#[]⟩]]) W := hS
  refine kNil_p (kFa83 (kCall_i (Try.call81 _ _) (take81b hS i (at_l hi) hB 1 hn _ (fun hl a1 cp1 a2 W hcp1 hB1 hT hS => ?_) (fun hlt => ?_))))
  · rw [set_l _ hi] at hS
    obtain ⟨k, rest, rfl⟩ : ∃ k rest, bs = k :: rest := by
      cases bs with
      | nil => simp at hlen; omega
      | cons k rest => exact ⟨k, rest, rfl⟩
    have hk := hbyte k (List.mem_cons_self ..)
    have hrest : ∀ b ∈ rest, b < 256 := fun b hb => hbyte b (List.mem_cons_of_mem _ hb)
    simp only [List.drop_succ_cons, List.drop_zero, List.take_succ_cons, List.take_zero] at hB1 hT
    obtain ⟨pb, po, rfl, hpb, hpr⟩ := hT.sl.elem (i := 0) (v := vB k) rfl
    have hi1 : (L.set i (.bx b 83 #[.slice a1 (n - 1) cp1]))[i]? = some (.bx b 83 #[.slice a1 (n - 1) cp1]) := by
      rw [List.getElem?_set_self (List.getElem?_eq_some_iff.1 hi).1]
    refine kIa38 (i := 0) (by omega) (kLdS rfl ((rangeAt_keep hpr (hS.below.block _ hpb)) 0 _ rfl) (kCv5_47 hk (kFa49 _ (by omega) (kStR hS (by simp) rfl rfl rfl fun W hS => kFa49 _ (by omega) (kLdR hS rfl rfl ?_)))))
    refine kEq_int (kIf_eq (fun e0 => ?_) (fun e0 => kEq_int (kIf_eq (fun e1 => ?_) (fun e1 => kEq_int (kIf_eq (fun e2 => ?_) (fun e2 => ?_))))))
    · have e0 : k = 0 := by omega
      subst e0
      refine ret49 hS rfl rfl rfl fun W hS => ?_
      exact h0 (0, 0, ⟨#[]⟩) 1 rfl a1 cp1 W hcp1 hB1 hS.init
    · have e1 : k = 1 := by omega
      subst e1
      refine kNil_p (kFa83 (kCall_i (Try.call81 _ _) (take81b hS i (at_l hi1) hB1 1 (by omega) _ (fun hl2 a2 cp2 a3 W hcp2 hB2 hT2 hS => ?_) (fun hlt => ?_))))
      · rw [set_l _ hi1, List.set_set] at hS
        obtain ⟨c, rest, rfl⟩ : ∃ c r, rest = c :: r := by
          cases rest with
          | nil => have := hB1.len; simp at this; omega
          | cons c r => exact ⟨c, r, rfl⟩
        have hc := hrest c (List.mem_cons_self ..)
        simp only [List.drop_succ_cons, List.drop_zero, List.take_succ_cons, List.take_zero] at hB2 hT2
        obtain ⟨pb2, po2, rfl, hpb2, hpr2⟩ := hT2.sl.elem (i := 0) (v := vB c) rfl
        refine kIa38 (i := 0) (by omega) (kLdS rfl ((rangeAt_keep hpr2 (hS.below.block _ hpb2)) 0 _ rfl) (kCv5_2 hc (kFa49 _ (by omega) (kStR hS (by simp) rfl rfl rfl fun W hS => ?_))))
        refine ret49 hS rfl rfl rfl fun W hS => ?_
        have e : n - 1 - 1 = n - 2 := by omega
        rw [e] at hB2 hS
        exact h0 (1, (c : Int), ⟨#[]⟩) 2 rfl a2 cp2 W (by omega) hB2 hS.init
      · have : rest = [] := by
          have := hB1.len
          cases rest with
          | nil => rfl
          | cons c r => simp at this; omega
        subst this
        exact h1 rfl a1 (n - 1) cp1 W hS.init
    · have e2 : k = 2 := by omega
      subst e2
      refine kCall_i (Try.call43 _ _) (number43b hS i (at_l hi1) hB1 hrest (by omega) _ (fun x m hr a2 cp2 W hcp2 hB2 hS => ?_) (fun hr => ?_))
      · rw [set_l _ hi1, List.set_set] at hS
        have hx := readN_val hrest hr
        have hm := readN_le hr
        refine kBin_shr (by omega) (by simp [IntKind.bits]) ?_
        rw [show ((x : Int) / 2 ^ (1 : Int).toNat) = ((x / 2 : Nat) : Int) by show (x : Int) / 2 ^ 1 = _; omega]
        refine kCv84_2 (by omega) (kBin_and ?_)
        rw [bits_and_one64 x hx]
        refine kCv84_2 (by omega) (kNeg (kBin_xor ?_))
        have hv : bits .xor .i64 ((x / 2 : Nat) : Int) (IntKind.i64.wrap (-((x % 2 : Nat) : Int))) = unzig x := by
          rcases Nat.mod_two_eq_zero_or_one x with h | h
          · rw [h, show IntKind.i64.wrap (-((0 : Nat) : Int)) = 0 by decide, xor_zeroI _ (by omega) (by omega)]; simp [unzig, h]
          · rw [h, show IntKind.i64.wrap (-((1 : Nat) : Int)) = -1 by decide, xor_onesI _ (by omega) (by omega)]; simp [unzig, h]
        rw [hv]
        refine kFa49 _ (by omega) (kStR hS (by simp) rfl rfl rfl fun W hS => ?_)
        refine ret49 hS rfl rfl rfl fun W hS => ?_
        have e : n - 1 - m = n - (1 + m) := by omega
        have e2 : List.drop m rest = List.drop (1 + m) (2 :: rest) := by rw [Nat.add_comm]; rfl
        rw [e] at hB2 hS
        rw [e2] at hB2
        exact h0 (2, unzig x, ⟨#[]⟩) (1 + m) (by simp [readV, hr]) a2 cp2 W (by omega) hB2 hS.init
      · exact h1 (by simp [readV, hr]) a1 (n - 1) cp1 W hS.init
    · refine kJn_inv (fun cs V => St w0 (L.set i (.bx b 83 #[.slice a1 (n - 1) cp1]) ++ [.bx b2 49 #[.int .i64 k, .int .i64 0, .string ⟨#[]⟩]]) V ∧ cs = [.bool (decide (k = 3 ∨ k = 4))]) ?_ ?_
      · rintro cs V ⟨hS, rfl⟩ ds
        refine kIf_d (fun e3 => ?_) (fun e3 => ?_)
        · have hrv : readV (k :: rest) = match readS rest with
            | some (s, m) => some (((k : Int), 0, mkS s), 1 + m)
            | none => none := by
            rcases e3 with rfl | rfl <;> simp [readV]
          refine kNil_p (kFa83 (kFa81 (kLd hS i (at_l hi1) rfl rfl (kCall_i (Try.call82 _ _) (readString82 (hB1.keep hS.below) hrest (by omega) _ (fun s m hr V hBe => ?_) (fun hr V hBe => ?_))))))
          · rw [hr] at hrv
            have hS := hS.bel hBe
            refine kExt3_0 (kExt3_1 (kExt3_2 (kEq_int (kCall_i (Try.call44 _ _) (must44 _ _ _ _ (fun _ => ?_) (fun hb => by simp at hb))))))
            refine kNil_p (kFa83 (kCall_i (Try.call81 _ _) (take81b hS i (at_l hi1) hB1 m (by omega) _ (fun hl2 a2 cp2 a3 W hcp2 hB2 hT2 hS => ?_) (fun hlt => ?_))))
            · rw [set_l _ hi1, List.set_set] at hS
              refine kFa49 _ (by omega) (kStR hS (by simp) rfl rfl rfl fun W hS => ?_)
              refine ret49 hS rfl rfl rfl fun W hS => ?_
              have e : n - 1 - m = n - (1 + m) := by omega
              have e2 : List.drop m rest = List.drop (1 + m) (k :: rest) := by rw [Nat.add_comm]; rfl
              rw [e] at hB2 hS
              rw [e2] at hB2
              exact h0 ((k : Int), 0, mkS s) (1 + m) hrv a2 cp2 W (by omega) hB2 hS.init
            · exfalso
              have h1 := hB1.len
              simp only [readS] at hr
              cases hq : readN rest with
              | none => rw [hq] at hr; cases hr
              | some p =>
                obtain ⟨x, m'⟩ := p
                have hm := readN_le hq
                rw [hq] at hr
                simp only [] at hr
                split at hr
                · cases hr; omega
                · cases hr
          · rw [hr] at hrv
            have hS := hS.bel hBe
            refine kExt3_0 (kExt3_1 (kExt3_2 (kEq_int (kCall_i (Try.call44 _ _) (must44 _ _ _ _ (fun hb => by simp at hb) (fun _ => ?_))))))
            exact h1 hrv a1 (n - 1) cp1 _ hS.init
        · refine kMkI_c conc28 (kPanic_i ?_)
          exact h1 (by simp only [readV]; rw [if_neg (by omega), if_neg (by omega), if_neg (by omega), if_neg e3]) a1 (n - 1) cp1 _ hS.init
      · intro J hJ
        refine kEq_int (kIf_eq (fun e3 => kD_i (hJ _ _ ⟨hS, ?_⟩)) (fun e3 => kEq_int (kD_i (hJ _ _ ⟨hS, ?_⟩))))
        · have : k = 3 := by omega
          subst this; rfl
        · have h3 : k ≠ 3 := by omega
          by_cases h4 : k = 4
          · subst h4; rfl
          · have : ¬ ((k : Int) = 4) := by omega
            simp [h3, h4, this]
  · have hn0 : n = 0 := by omega
    have : bs = [] := by
      cases bs with
      | nil => rfl
      | cons k rest => simp at hlen; omega
    subst this
    have := hS.init
    refine h1 rfl a n cp W ?_
    rw [show L.set i (.bx b 83 #[.slice a n cp]) = L from ?_]
    · exact this
    · apply List.ext_getElem?
      intro j
      by_cases hj : j = i
      · subst hj; rw [List.getElem?_set_self (List.getElem?_eq_some_iff.1 hi).1, hi]
      · rw [List.getElem?_set_ne (Ne.symm hj)]
end Go.L
namespace Go.L
open Go Go.RowKit Go.Proofs
set_option linter.unusedSimpArgs false
set_option linter.unusedVariables false

theorem kDrew_b {w0 w : World} {f : World → Prop} (hS : Below w0.heap.size w0 w) (h : ∀ W, Below w0.heap.size w0 W → f W) : kDrew w f := kDrew_st (L := []) ⟨hS, by simp, by simp⟩ (fun W hS => h W hS.below)

theorem equal46 {w : World} {a a2 : Option Addr} {n cp n2 cp2 : Nat} {x y : List Nat} (hx : Bs w a n cp x) (hy : Bs w a2 n2 cp2 y) (hn : n ≤ 9223372036854775807) (R : Ending → World → Prop)
    (h : ∀ W, Below w.heap.size w W → R (.returned (.bool (decide (x = y)))) W) : Calls Try.prog 46 #[.slice a n cp, .slice a2 n2 cp2] w R := by
  refine c46 _ _ _ _ _ _ _ _ ?_
  unfold vc46
  have h1 := hx.len
  have h2 := hy.len
  have bad : x ≠ y → ∀ W, Below w.heap.size w W → R (.returned (.bool false)) W := fun hne W hB => by
    have := h W hB; rwa [decide_eq_false hne] at this
  refine kLen38 (kLen38 (kNe_int (kIf_ne (fun e => bad (fun e2 => e (by rw [h1, h2, e2])) _ (Below.refl _ _)) (fun e => kLen38 ?_))))
  refine ⟨⟨fun cs W => ∃ i : Nat, cs = [.int .i64 i] ∧ Below w.heap.size w W ∧ i ≤ n ∧ x.take i = y.take i, fun cs _ => n - (match cs with | [.int _ i] => i.toNat | _ => 0), ⟨0, rfl, Below.refl _ _, by omega, rfl⟩, ?_⟩⟩
  rintro cs ds W ⟨i, rfl, hB, hin, heq⟩
  dsimp only [List.getD_cons_zero]
  refine kBin_lss (kIf_d (fun hlt => ?_) (fun hge => ?_))
  · have hix : i < x.length := by omega
    have hiy : i < y.length := by omega
    obtain ⟨pb, po, rfl, hpb, hpr⟩ := hx.sl.elem (i := i) (v := vB x[i]) (by simp [hix])
    obtain ⟨pb2, po2, rfl, hpb2, hpr2⟩ := hy.sl.elem (i := i) (v := vB y[i]) (by simp [hiy])
    refine kDrawn_i (kIa38 (by omega) (kLdS rfl ((rangeAt_keep hpr (hB.block _ hpb)) 0 _ rfl) (kIa38 (by omega) (kLdS rfl ((rangeAt_keep hpr2 (hB.block _ hpb2)) 0 _ rfl) (kNe_int (kDrew_b hB fun W hB => ?_))))))
    refine kIf_ne (fun hne => bad (fun e => hne (by subst e; rfl)) _ hB) (fun he => kBin_add (kD_i ⟨⟨i + 1, by rw [wrap_id (by omega) (by omega)]; rfl, hB, by omega, ?_⟩, ?_⟩))
    · rw [List.take_succ_eq_append_getElem hix, List.take_succ_eq_append_getElem hiy, heq]
      have : x[i] = y[i] := by
        have he : ((x[i] : Nat) : Int) = ((y[i] : Nat) : Int) := he
        omega
      rw [this]
    · rw [wrap_id (by omega) (by omega)]; show n - ((i : Int) + 1).toNat < n - (i : Int).toNat; omega
  · have hi : i = n := by omega
    have he : x = y := by
      rw [hi, List.take_of_length_le (by omega), List.take_of_length_le (by omega)] at heq; exact heq
    have := h W hB
    rwa [decide_eq_true he] at this

def readVs : Nat → List Nat → Option (List AV × Nat)
  | 0, _ => some ([], 0)
  | n + 1, bs =>
    match readV bs with
    | none => none
    | some (r, m) =>
      match readVs n (bs.drop m) with
      | none => none
      | some (rs, k) => some (r :: rs, m + k)
def decR (bs : List Nat) : Option (List AV) :=
  match readN bs with
  | none => none
  | some (x, m) =>
    if x ≤ 32 then
      match readVs x (bs.drop m) with
      | none => none
      | some (rs, _) => if encE rs = 0 ∧ encB rs = bs then some rs else none
    else none

theorem readV_rng {bs : List Nat} (hb : ∀ b ∈ bs, b < 256) {r : AV} {m : Nat} (h : readV bs = some (r, m)) : Rng r := by
  cases bs with
  | nil => simp [readV] at h
  | cons k rest =>
    have hrest : ∀ b ∈ rest, b < 256 := fun b h => hb b (List.mem_cons_of_mem _ h)
    simp only [readV] at h
    split at h
    · cases h; exact ⟨by simp, by simp⟩
    split at h
    · cases rest with
      | nil => cases h
      | cons c rest =>
        have := hrest c (List.mem_cons_self ..)
        cases h
        exact ⟨by show (-9223372036854775808 : Int) ≤ (c : Int); omega, by show (c : Int) ≤ 9223372036854775807; omega⟩
    split at h
    · cases hr : readN rest with
      | none => rw [hr] at h; cases h
      | some p =>
        obtain ⟨x, m'⟩ := p
        have hx := readN_val hrest hr
        rw [hr] at h; cases h
        refine ⟨?_, ?_⟩
        · show (-9223372036854775808 : Int) ≤ unzig x; unfold unzig; split <;> omega
        · show unzig x ≤ 9223372036854775807; unfold unzig; split <;> omega
    split at h
    · cases hr : readS rest with
      | none => rw [hr] at h; cases h
      | some p =>
        obtain ⟨s, m'⟩ := p
        rw [hr] at h; cases h; exact ⟨by simp, by simp⟩
    · cases h

theorem Lv_clear42 {w0 : World} {L : List Own} {R : Ending → World → Prop} {w : World} {b2 b3 : Nat} {t2 t3 : TypeId} {x : Value} {z n : Int} (hS : St w0 L w) (h2 : L[0]? = some (.bx b2 t2 #[x])) (h3 : L[1]? = some (.bx b3 t3 #[.int .i64 z]))
    (h : ∀ W, Below w0.heap.size w0 W → R (.returned (.tuple #[.slice none 0 0, .int .i64 n])) W) :
    Lv Try.prog [.cell (.pointer (some ⟨b2, 0, none⟩)) 22, .cell (.pointer (some ⟨b3, 0, none⟩)) 28] R [{ target := .fn (.func 39) #[], args := #[.pointer (some ⟨b3, 0, none⟩), .func (.func 42) #[] #[.pointer (some ⟨b2, 0, none⟩)]] }] (.panicking [pe n false]) w := by
  have hl0 := (List.getElem?_eq_some_iff.1 h2).1
  have hl1 := (List.getElem?_eq_some_iff.1 h3).1
  refine Lv_pan39 hS 1 h3 (fun W => St w0 ((L.set 1 (.bx b3 t3 #[.int .i64 n])).set 0 (.bx b2 t2 #[.slice none 0 0])) W) Try.call42 (fun W hS => ?_) (fun W hS => RetK_cell2 rfl rfl (hS.cell 0 (by rw [List.getElem?_set_self (by simp; exact hl0)]) 0 rfl) (hS.cell 1 (by rw [List.getElem?_set_ne (by decide), List.getElem?_set_self hl1]) 0 rfl) (h _ hS.below))
  refine c42 _ _ _ ?_
  unfold vc42
  refine kSt hS 0 (cs := #[x]) (by rw [List.getElem?_set_ne (by decide)]; exact h2) (by simp) rfl rfl rfl fun W hS => ⟨rfl, ?_⟩
  exact hS
end Go.L
namespace Go.L
open Go Go.RowKit Go.Proofs
set_option linter.unusedSimpArgs false
set_option linter.unusedVariables false

theorem built81 (a : Option Addr) (n c : Nat) : Try.prog.built 81 [(0, .slice a n c)] = some #[.slice a n c] := by
  have h1 := info_of (Try.typeInfo81 default)
  have h2 := info_of (Try.typeInfo38 default)
  simp [Program.built, h1, Try.underlying81, Try.t81, h2, Try.t38, Instr.fill]
  exact ⟨⟨rfl, Nat.le_of_ble_eq_true rfl⟩, rfl⟩
theorem built83 (a : Option Addr) (n c : Nat) : Try.prog.built 83 [(0, .agg #[.slice a n c])] = some #[.slice a n c] := by
  have h1 := info_of (Try.typeInfo83 default)
  have h2 := info_of (Try.typeInfo81 default)
  simp [Program.built, h1, Try.underlying83, Try.t83, h2, Try.t81, Instr.fill]
  exact ⟨⟨rfl, Nat.le_of_ble_eq_true rfl⟩, rfl⟩

theorem flatMap_vVal_size (rs : List AV) : ∀ v ∈ rs.map vVal, v.cells.size = 3 := by
  intro v hv; obtain ⟨r, _, rfl⟩ := List.mem_map.1 hv; rfl
theorem own_cells {W : World} {base : Nat} {e : TypeId} {sz n : Nat} {x : Value} {xs : List Value} (h : W.ownsRow base e sz x n xs) : x.cells = #[x] ∧ x.oneCell' = true := by
  rcases h.2 with ⟨h, _⟩ | ⟨g, cap, cur, h, _⟩ <;> rw [h] <;> exact ⟨rfl, rfl⟩

theorem kBin_lssU {c : Cx} {w : World} {k : Value → World → Prop} {t : TypeId} {q : IntKind} {a b : Nat} (h : k (.bool (decide (a < b))) w) : kBin c w .lss t (.int q a) (.int q b) k := kBin_lss (by
  have e : decide ((a : Int) < (b : Int)) = decide (a < b) := by simp
  rw [e]; exact h)

theorem Bs.of_owns {W : World} {base : Nat} {y : Value} {bs : List Nat} (h : W.ownsRow base 5 1 y bs.length (bs.map vB)) : ∃ a cp, y = .slice a bs.length cp ∧ Bs W a bs.length cp bs := by
  obtain ⟨ya, yc, rfl, hysl⟩ := Sl.of_owns (vs := bs.map vB) (by intro v hv; obtain ⟨z, _, rfl⟩ := List.mem_map.1 hv; rfl) (by rw [flat_vB]; exact h) (by simp)
  refine ⟨ya, yc, rfl, hysl, rfl, ?_⟩
  rcases h.2 with ⟨h, hn⟩ | ⟨g, cap, cur, h, _, _, _, hcap, _⟩
  · rw [hn]; omega
  · cases h; omega
theorem enc_bound {rs : List AV} (h : encE rs = 0) : rs.length ≤ 32 ∧ (encB rs).length ≤ 4000 := by
  unfold encE at h
  split at h
  · rename_i h2; exact absurd h h2
  split at h
  · assumption
  · omega

theorem Decode19 (bs : List Nat) (w : World) (a : Option Addr) (n cp : Nat) (hB : Bs w a n cp bs) (hbyte : ∀ b ∈ bs, b < 256) (hn : cp ≤ 9223372036854775807) (R : Ending → World → Prop)
    (h0 : ∀ rs, decR bs = some rs → ∀ x W, Below w.heap.size w W → W.ownsRow w.heap.size 49 3 x rs.length (flat (rs.map vVal)) → R (.returned (.tuple #[x, .int .i64 0])) W)
    (h1 : decR bs = none → ∀ W, Below w.heap.size w W → R (.returned (.tuple #[.slice none 0 0, .int .i64 210])) W) : Calls Try.prog 19 #[.slice a n cp] w R := by
  refine c19 _ _ _ _ _ ?_
  unfold vc19
  refine kAlloc_st Try.zeroValue22 (St.start w) fun b2 W hS => kAlloc_st Try.zeroValue28 hS fun b3 W hS => ?_
  refine kBuild_i (built81 _ _ _) (kBuild_i (built83 _ _ _) (kBox_st hS fun b4 W hS => ?_))
  have hS : St w [.bx b2 22 #[.slice none 0 0], .bx b3 28 #[.int .i64 0], .bx b4 83 #[.slice a n cp]] W := hS
  have bad : decR bs = none → ∀ (L : List Own) (x : Value) (V : World), St w L V → L[0]? = some (.bx b2 22 #[x]) → L[1]? = some (.bx b3 28 #[.int .i64 0]) →
      Lv Try.prog [.cell (.pointer (some ⟨b2, 0, none⟩)) 22, .cell (.pointer (some ⟨b3, 0, none⟩)) 28] R [{ target := .fn (.func 39) #[], args := #[.pointer (some ⟨b3, 0, none⟩), .func (.func 42) #[] #[.pointer (some ⟨b2, 0, none⟩)]] }] (.panicking [pe 210 false]) V :=
    fun hd L x V hV hl0 hl1 => Lv_clear42 hV hl0 hl1 (h1 hd)
  refine kCall_i (Try.call43 _ _) (number43b hS 2 rfl hB hbyte hn _ (fun N m hr a1 cp1 W hcp1 hB1 hS => ?_) (fun hr => ?_))
  · have hm := readN_le hr
    have hN := readN_val hbyte hr
    have hlen := hB.len
    refine kBin_leq (kCall_i (Try.call44 _ _) (must44 _ _ _ _ (fun hok => ?_) (fun hb => ?_)))
    · have hok : N ≤ 32 := by simp at hok; omega
      have hb1 : ∀ b ∈ bs.drop m, b < 256 := fun b hb => hbyte b (List.mem_of_mem_drop hb)
      have hS : St w [.bx b2 22 #[.slice none 0 0], .bx b3 28 #[.int .i64 0], .bx b4 83 #[.slice a1 (n - m) cp1]] W := hS
      have hS := hS.adopt (o := .row (.slice none 0 0) 49 3 0 []) (World.ownsRow_nil _ _ _ _) (fun p hp => by
        cases hpb : p.blk with
        | none => exact .inl rfl
        | some k => exact .inr (by simp [Own.blk, Value.ownBlock]))
      refine ⟨⟨fun cs V => ∃ (j t : Nat) (rs : List AV) (x : Value) (a' : Option Addr) (n' cp' : Nat) (bs' : List Nat), cs = [.int .u64 j] ∧ j ≤ N ∧ rs.length = j ∧ cp' ≤ cp ∧ Bs w a' n' cp' bs' ∧ (∀ b ∈ bs', b < 256) ∧ (∀ r ∈ rs, Rng r) ∧
          readVs N (bs.drop m) = (readVs (N - j) bs').map (fun p => (rs ++ p.1, t + p.2)) ∧ St w [.bx b2 22 #[x], .bx b3 28 #[.int .i64 0], .bx b4 83 #[.slice a' n' cp'], .row x 49 3 j (flat (rs.map vVal))] V,
        fun cs _ => N - (match cs with | [.int _ i] => i.toNat | _ => 0), ⟨0, 0, [], .slice none 0 0, a1, n - m, cp1, bs.drop m, rfl, by omega, rfl, hcp1, hB1, hb1, by simp, by simp, hS⟩, ?_⟩⟩
      rintro cs ds V ⟨j, t, rs, x, a', n', cp', bs', rfl, hjN, hrs, hcp', hB', hb', hrng, heq, hS⟩
      dsimp only [List.getD_cons_zero]
      refine kBin_lssU (kIf_d (fun hlt => ?_) (fun hge => ?_))
      · -- one value more
        have hNj : N - j = (N - (j + 1)) + 1 := by omega
        refine kDrawn_i (kDrawn_i (kLd hS 0 rfl rfl rfl (kDrew_st hS fun V hS => kCall_i (Try.call45 _ _) (value45 hS 2 rfl hB' hb' (by omega) _ (fun r m' hv a2 cp2 V hcp2 hB2 hS => ?_) (fun hv a2 n2 cp2 V hS => ?_)))))
        · have hS : St w [.bx b2 22 #[x], .bx b3 28 #[.int .i64 0], .bx b4 83 #[.slice a2 (n' - m') cp2], .row x 49 3 j (flat (rs.map vVal))] V := hS
          refine kLd hS 0 rfl rfl rfl (kSame_i (kDrew_st hS fun V hS => kBuildS_st (E22 w) hS [vVal r] rfl rfl (by omega) (by omega) (by simp [vVal_size]) fun y V hS => kLd hS 0 rfl rfl rfl (kSame_i (kDrew_st hS fun V hS => ?_))))
          refine kAppRow_st (E22 w) hS 3 4 rfl rfl (by
            have : flat [vVal r] = (vVal r).cells.toList := by simp [flat]
            rw [this]; exact vVal_one r) (by simp [maxLen]; omega) (by omega) fun x' V hS => kDrew_st hS fun V hS => ?_
          have hS := hS.take 4
          have hS : St w [.bx b2 22 #[x], .bx b3 28 #[.int .i64 0], .bx b4 83 #[.slice a2 (n' - m') cp2], .row x' 49 3 (j + 1) (flat (rs.map vVal) ++ flat [vVal r])] V := hS
          have hrow : V.ownsRow w.heap.size 49 3 x' _ _ := hS.get 3 rfl
          refine kSt hS 0 rfl (by simp) (own_cells hrow).1 (own_cells hrow).2 rfl fun V hS => ?_
          refine kBin_add (kD_i ⟨⟨j + 1, t + m', rs ++ [r], x', a2, n' - m', cp2, bs'.drop m', ?_, by omega, by simp [hrs], by omega, hB2, fun b hb => hb' b (List.mem_of_mem_drop hb), fun q hq => ?_, ?_, ?_⟩, ?_⟩)
          · have : IntKind.u64.wrap ((j : Int) + 1) = ((j + 1 : Nat) : Int) := by
              rw [show (j : Int) + 1 = ((j + 1 : Nat) : Int) by omega, u64_wrap (by omega)]
            rw [this]
          · rcases List.mem_append.1 hq with hq | hq
            · exact hrng q hq
            · simp at hq; subst hq; exact readV_rng hb' hv
          · rw [heq, hNj, readVs, hv]
            simp only []
            cases readVs (N - (j + 1)) (bs'.drop m') with
            | none => rfl
            | some p => simp [Nat.add_assoc]
          · have e : flat ((rs ++ [r]).map vVal) = flat (rs.map vVal) ++ flat [vVal r] := by simp [flat]
            rw [e]; exact hS
          · have : IntKind.u64.wrap ((j : Int) + 1) = ((j + 1 : Nat) : Int) := by
              rw [show (j : Int) + 1 = ((j + 1 : Nat) : Int) by omega, u64_wrap (by omega)]
            rw [this]; show N - ((j + 1 : Nat) : Int).toNat < N - (j : Int).toNat; omega
        · intro _
          have hd : decR bs = none := by
            rw [hNj, readVs, hv] at heq
            simp only [decR, hr, if_pos hok, heq]; rfl
          exact bad hd _ x V hS rfl rfl
      · have hj : j = N := by omega
        subst hj
        have heq : readVs j (bs.drop m) = some (rs, t) := by rw [heq]; simp [readVs]
        have hdec : decR bs = if encE rs = 0 ∧ encB rs = bs then some rs else none := by
          simp only [decR, hr, if_pos hok, heq]
        have hrow : V.ownsRow w.heap.size 49 3 x j (flat (rs.map vVal)) := hS.get 3 rfl
        obtain ⟨xa, xc, rfl, hsl⟩ := Sl.of_owns (flatMap_vVal_size rs) hrow (by simpa using hrs)
        subst hrs
        have clear := fun (hd : decR bs = none) (V : World) (hS : St w [.bx b2 22 #[.slice xa rs.length xc], .bx b3 28 #[.int .i64 0], .bx b4 83 #[.slice a' n' cp'], .row (.slice xa rs.length xc) 49 3 rs.length (flat (rs.map vVal))] V) => bad hd _ _ V hS rfl rfl
        refine kLd hS 0 rfl rfl rfl (kCall_i (Try.call18 _ _) (Encode18 rs V xa xc hsl hrng (by omega) _ (fun he y V hBe ho => ?_) (fun he V hBe => ?_)))
        · have hS := hS.made hBe ho
          refine kExt_0 (kExt_1 (kSt hS 1 rfl (by simp) rfl rfl rfl fun V2 hS => kLd hS 1 rfl rfl rfl (kEq_int (kIf_eq (fun _ => ?_) (fun h => absurd rfl h)))))
          have ho2 : V2.ownsRow w.heap.size 5 1 y _ _ := hS.get 4 rfl
          obtain ⟨ya, yc, rfl, hyB⟩ := Bs.of_owns ho2
          refine kCall_i (Try.call46 _ _) (equal46 hyB (hB.keep hS.below) (by have := enc_bound he; omega) _ fun V3 hBe3 => ?_)
          have hS := hS.bel hBe3
          refine kCall_i (Try.call44 _ _) (must44 _ _ _ _ (fun hok => ?_) (fun hno => ?_))
          · have hee : encB rs = bs := by simpa using hok
            refine kLd hS 0 rfl rfl rfl (kSt hS 0 rfl (by simp) rfl rfl rfl fun V4 hS => kSt hS 1 rfl (by simp) rfl rfl rfl fun V5 hS => Lv_ret39 (RetK_cell2 rfl rfl (hS.cell 0 rfl 0 rfl) (hS.cell 1 rfl 0 rfl) ?_))
            exact h0 rs (by rw [hdec, if_pos ⟨he, hee⟩]) _ _ hS.below (hS.get 3 rfl)
          · have hee : encB rs ≠ bs := by simpa using hno
            exact Lv_clear42 hS rfl rfl (h1 (by rw [hdec, if_neg (fun h => hee h.2)]))
        · have hS := hS.bel hBe
          have hd : decR bs = none := by rw [hdec, if_neg (fun h => he h.1)]
          refine kExt_0 (kExt_1 (kSt hS 1 rfl (by simp) rfl rfl rfl fun V hS => kLd hS 1 rfl rfl rfl (kEq_int (kIf_eq (fun h => absurd h he) (fun _ => ?_)))))
          refine kCall_i (Try.call44 _ _) (must44 _ _ _ _ (fun h => by cases h) (fun _ => ?_))
          exact Lv_clear42 hS rfl rfl (h1 hd)
    · refine bad ?_ _ _ _ hS rfl rfl
      simp only [decR, hr]; rw [if_neg (by simp at hb; omega)]
  · refine bad ?_ _ _ _ hS rfl rfl
    simp only [decR, hr]
end Go.L
namespace Go.L
open Go Go.RowKit Go.Proofs
set_option linter.unusedSimpArgs false
set_option linter.unusedVariables false

theorem St.sl {w0 w : World} {L : List Own} (hS : St w0 L w) (i : Nat) {a : Option Addr} {n cp sz : Nat} {e : TypeId} {vs : List Value} (hi : L[i]? = some (.row (.slice a n cp) e sz n (flat vs))) (hv : ∀ v ∈ vs, v.cells.size = sz) (hn : vs.length = n) : Sl w a sz vs := by
  obtain ⟨a', cp', he, h⟩ := Sl.of_owns hv (hS.get i hi) hn
  cases he; exact h
/-- A slice literal. -/
theorem kBS {P : Program} {X : Chain → World → Prop} {w w0 : World} {t e : TypeId} {sz by_ : Nat} (E : Elt P t e sz by_) {L : List Own} (hS : St w0 L w) (vs : List Value) {n : Nat} {parts : Array (Nat × Value)} {k : Value → World → Prop} (hp : parts.toList = (vs.zipIdx 0).map fun x => (x.2, x.1)) (hn : vs.length = n) (h0 : 0 < n) (h1 : n ≤ 1024)
    (hv : ∀ v ∈ vs, v.cells.size = sz) (h : ∀ a cp W, St w0 (L ++ [.row (.slice a n cp) e sz n (flat vs)]) W → Sl W a sz vs → k (.slice a n cp) W) : kBuildS ⟨P, X, false⟩ w t n parts k := by
  refine kBuildS_st E hS vs hp hn h0 h1 hv fun x W hS => ?_
  have ho : W.ownsRow w0.heap.size e sz x n (flat vs) := hS.get L.length at_r
  obtain ⟨a, cp, rfl, hsl⟩ := Sl.of_owns hv ho hn
  exact h a cp W hS hsl
theorem E23 (w : World) : Elt Try.prog 23 3 1 8 := ⟨Try.underlying23, ⟨Try.t3, _, info_of (Try.typeInfo3 w), rfl, rfl, rfl, rfl⟩, by omega, by omega⟩
theorem E24 (w : World) : Elt Try.prog 24 27 1 8 := ⟨Try.underlying24, ⟨Try.t27, _, info_of (Try.typeInfo27 w), rfl, rfl, rfl, rfl⟩, by omega, by omega⟩
theorem vInts_size (is : List Int) : ∀ v ∈ is.map vInt, v.cells.size = 1 := by
  intro v hv; obtain ⟨r, _, rfl⟩ := List.mem_map.1 hv; rfl
theorem vBs_size (is : List Nat) : ∀ v ∈ is.map vB, v.cells.size = 1 := by
  intro v hv; obtain ⟨r, _, rfl⟩ := List.mem_map.1 hv; rfl
theorem built49s (t : Int) (s : ByteArray) : Try.prog.built 49 [(0, .int .i64 t), (2, .string s)] = some #[.int .i64 t, .int .i64 0, .string s] := by
  have h1 := info_of (Try.typeInfo49 default)
  have h2 := info_of (Try.typeInfo47 default)
  have h3 := info_of (Try.typeInfo2 default)
  have h4 := info_of (Try.typeInfo9 default)
  simp [Program.built, h1, Try.underlying49, Try.t49, h2, h3, h4, Try.t47, Try.t2, Try.t9, Instr.fill]
  exact ⟨⟨rfl, Nat.le_of_ble_eq_true rfl⟩, ⟨rfl, Nat.le_of_ble_eq_true rfl⟩, rfl⟩
/-- A row as it is handed over: the list that it reads as. -/
theorem flat_inj {l : List AV} : flat (l.map vVal) = flat (l.map vVal) := rfl

theorem numB_s (n : Nat) (h : n < 128) : numB n = [n] := by rw [numB]; simp [h]
theorem ho_cap {W : World} {base : Nat} {e : TypeId} {sz n : Nat} {a : Option Addr} {m cp : Nat} {xs : List Value} (h : W.ownsRow base e sz (.slice a m cp) n xs) : cp ≤ 9223372036854775807 := by
  rcases h.2 with ⟨h, _⟩ | ⟨g, cap, cur, h, _, _, _, hc, _⟩
  · cases h; omega
  · cases h; simpa [maxLen] using hc
def rows1 : List AV := [(0, 0, ⟨#[]⟩), (2, -1, ⟨#[]⟩), (3, 0, ⟨#[97, 98]⟩)]
theorem rows1_enc : encE rows1 = 0 ∧ encB rows1 = [3, 0, 2, 1, 3, 2, 97, 98] := by
  have e2 : (ByteArray.mk #[97, 98]).size = 2 := rfl
  have e0 : (ByteArray.mk #[]).size = 0 := rfl
  have eb : encB rows1 = [3, 0, 2, 1, 3, 2, 97, 98] := by simp [encB, rows1, layB, numB_s, zig, strB, bl, e2]
  refine ⟨?_, eb⟩
  have hb : badE rows1 = 0 := by simp [badE, rows1, checkE, e2, e0]
  unfold encE; rw [hb, eb]; simp [rows1]
theorem dec1 : decR [1, 2, 128, 0] = none := by
  simp [decR, readN, readF, readVs, readV]
theorem width1 : widthN [(0, 0, ⟨#[]⟩)] = 2 := by
  have e0 : (ByteArray.mk #[]).size = 0 := rfl
  have eb : encB [(0, 0, ⟨#[]⟩)] = [1, 0] := by simp [encB, layB, numB_s]
  have hb : badE [(0, 0, ⟨#[]⟩)] = 0 := by simp [badE, checkE, e0]
  simp [widthN, encE, hb, eb]

theorem fits1 : fitsB [(2, 1, ⟨#[]⟩), (0, 0, ⟨#[]⟩)] [2, 3] = true := by
  have e0 : (ByteArray.mk #[]).size = 0 := rfl
  simp [fitsB, isB, checkE, e0]
theorem works11 (w : World) (R : Ending → World → Prop) (h : ∀ W, Below w.heap.size w W → R (.returned (.bool true)) W) : Calls Try.prog 11 #[] w R := by
  refine c11 _ _ ?_
  unfold vc11
  refine kAlloc_st Try.zeroValue49 (St.start w) fun b1 W hS => ?_
  have hS : St w [.bx b1 49 (vVal (0, 0, ⟨#[]⟩)).cells] W := hS
  refine kDrawn_i (kDrawn_i (kLoadA_st (c := ⟨Try.prog, _, true⟩) hS 0 rfl Try.underlying49 rfl Try.sizeOf49 rfl (kBuild_i (built49s _ _) (kDrew_st hS fun W hS => kCall_i (Try.call32 _ _) (of32 _ _ _ fun W hB => ?_)))))
  have hS := hS.bel hB
  refine kLoadA_st (c := ⟨Try.prog, _, true⟩) hS 0 rfl Try.underlying49 rfl Try.sizeOf49 rfl (kSame_i (kBuild_i (built49s _ _) (kSame_i (kDrew_st hS fun W hS => ?_))))
  refine kBS (E22 w) hS (rows1.map vVal) rfl rfl (by omega) (by omega) (flatMap_vVal_size _) fun a cp W hS hsl => kDrew_st hS fun W hS => ?_
  refine kCall_i (Try.call18 _ _) (Encode18 rows1 W a cp (hS.sl 1 rfl (flatMap_vVal_size _) rfl) (by intro r hr; simp [rows1] at hr; rcases hr with rfl | rfl | rfl <;> exact ⟨by decide, by decide⟩) (by decide) _ (fun _ y V hBe ho => ?_) (fun he => absurd rows1_enc.1 he))
  have hS := hS.made hBe ho
  refine kExt_0 (kExt_1 (kDrew_st hS fun W hS => ?_))
  rw [rows1_enc.2] at hS
  have hrowY : W.ownsRow w.heap.size 5 1 y _ _ := hS.get 2 rfl
  obtain ⟨ya, yc, rfl, _⟩ := Bs.of_owns hrowY
  -- Decode
  refine kBS (E38 w) hS (([1, 2, 128, 0] : List Nat).map vB) rfl rfl (by omega) (by omega) (vBs_size _) fun a2 cp2 W hS hsl => ?_
  have hrow : W.ownsRow w.heap.size 5 1 (.slice a2 4 cp2) _ _ := hS.get 3 rfl
  obtain ⟨za, zc, hz, hzB⟩ := Bs.of_owns (bs := [1, 2, 128, 0]) hrow
  cases hz
  refine kCall_i (Try.call19 _ _) (Decode19 [1, 2, 128, 0] W a2 4 cp2 hzB (by decide) (ho_cap hrow) _ (fun rs hd => by rw [dec1] at hd; cases hd) (fun _ V hBe => ?_))
  have hS := hS.bel hBe
  refine kExt_0 (kExt_1 (kCall_i (Try.call32 _ _) (of32 _ _ _ fun W hB => ?_)))
  have hS := hS.bel hB
  refine kCall_i (Try.call32 _ _) (of32 _ _ _ fun W hB => ?_)
  have hS := hS.bel hB
  refine kBS (E22 w) hS (([(2, 1, ⟨#[]⟩), (2, 2, ⟨#[]⟩)] : List AV).map vVal) rfl rfl (by omega) (by omega) (flatMap_vVal_size _) fun a3 cp3 W hS _ => ?_
  refine kBS (E23 w) hS (([1, 1, 0] : List Int).map vInt) rfl rfl (by omega) (by omega) (vInts_size _) fun a4 cp4 W hS _ => ?_
  refine kCall_i (Try.call12 _ _) (Pick12 [(2, 1, ⟨#[]⟩), (2, 2, ⟨#[]⟩)] [1, 1, 0] W a3 a4 cp3 cp4 (hS.sl 4 rfl (flatMap_vVal_size _) rfl) (hS.sl 5 rfl (vInts_size _) rfl) (by decide) (by decide) _ fun V hBe => ⟨fun hno => absurd (by decide) hno, fun _ p hp => ?_⟩)
  have hS := hS.made hBe hp
  refine kExt_0 (kExt_1 (kCall_i (Try.call32 _ _) (of32 _ _ _ fun W hB => ?_)))
  have hS := hS.bel hB
  refine kBS (E22 w) hS (([(2, 1, ⟨#[]⟩)] : List AV).map vVal) rfl rfl (by omega) (by omega) (flatMap_vVal_size _) fun a5 cp5 W hS _ => ?_
  refine kBS (E23 w) hS (([1] : List Int).map vInt) rfl rfl (by omega) (by omega) (vInts_size _) fun a6 cp6 W hS _ => ?_
  refine kCall_i (Try.call12 _ _) (Pick12 [(2, 1, ⟨#[]⟩)] [1] W a5 a6 cp5 cp6 (hS.sl 7 rfl (flatMap_vVal_size _) rfl) (hS.sl 8 rfl (vInts_size _) rfl) (by decide) (by decide) _ fun V hBe => ⟨fun _ => ?_, fun hyes => absurd hyes (by decide)⟩)
  have hS := hS.bel hBe
  have hrowP : V.ownsRow w.heap.size 49 3 p _ _ := hS.get 6 rfl
  have hpk : pick [(2, 1, ⟨#[]⟩), (2, 2, ⟨#[]⟩)] [1, 1, 0] = [(2, 2, ⟨#[]⟩), (2, 2, ⟨#[]⟩), (2, 1, ⟨#[]⟩)] := rfl
  rw [hpk] at hrowP
  obtain ⟨pa, pc, rfl, _⟩ := Sl.of_owns (vs := ([(2, 2, ⟨#[]⟩), (2, 2, ⟨#[]⟩), (2, 1, ⟨#[]⟩)] : List AV).map vVal) (flatMap_vVal_size _) hrowP rfl
  have hrowY : V.ownsRow w.heap.size 5 1 (.slice ya 8 yc) 8 _ := hS.get 2 rfl
  obtain ⟨yb, yd, hy, hyB⟩ := Bs.of_owns (bs := [3, 0, 2, 1, 3, 2, 97, 98]) hrowY
  cases hy
  refine kExt_0 (kExt_1 (kDrawn_i (kDrawn_i (kJn_inv (fun cs V => Below w.heap.size w V ∧ cs.getD 41 undef = .bool true) (fun cs V h2 => by rw [h2.2]; exact h V h2.1) fun J hJ => ?_))))
  refine kCv_str hyB (kEq_str ?_)
  refine kIf_d (fun _ => ?_) (fun h => absurd (by decide) h)
  refine kDrew_st hS fun V hS => kCall_i (Try.call15 _ _) (num15 _ _ _ (kDrew_st hS fun V hS => kCall_i (Try.call15 _ _) (num15 _ _ _ (kBin_add (kEq_int (kIf_t ?_))))))
  refine kDrew_st hS fun V hS => kCall_i (Try.call15 _ _) (num15 _ _ _ (kEq_int (kIf_t ?_)))
  refine kDrew_st hS fun V hS => kCall_i (Try.call32 _ _) (of32 _ _ _ fun V hB => ?_)
  have hS := hS.bel hB
  refine kDrew_st hS fun V hS => kCall_i (Try.call32 _ _) (of32 _ _ _ fun V hB => ?_)
  have hS := hS.bel hB
  refine kDrew_st hS fun V hS => kCall_i (Try.call32 _ _) (of32 _ _ _ fun V hB => ?_)
  have hS := hS.bel hB
  refine kDrew_st hS fun V hS => kBS (E22 w) hS (([(2, 2, ⟨#[]⟩), (2, 2, ⟨#[]⟩), (2, 1, ⟨#[]⟩)] : List AV).map vVal) rfl rfl (by omega) (by omega) (flatMap_vVal_size _) fun a7 cp7 V hS _ => kDrew_st hS fun V hS => ?_
  refine kCall_i (Try.call14 _ _) (same14 [(2, 2, ⟨#[]⟩), (2, 2, ⟨#[]⟩), (2, 1, ⟨#[]⟩)] [(2, 2, ⟨#[]⟩), (2, 2, ⟨#[]⟩), (2, 1, ⟨#[]⟩)] V pa a7 pc cp7 (hS.sl 6 (vs := ([(2, 2, ⟨#[]⟩), (2, 2, ⟨#[]⟩), (2, 1, ⟨#[]⟩)] : List AV).map vVal) rfl (flatMap_vVal_size _) rfl) (hS.sl 9 rfl (flatMap_vVal_size _) rfl) (by decide) (by decide) _ fun V hBe => ?_)
  have hS := hS.bel hBe
  refine kIf_d (fun _ => ?_) (fun h => absurd rfl h)
  refine kDrew_st hS fun V hS => kCall_i (Try.call15 _ _) (num15 _ _ _ (kEq_int (kIf_t ?_)))
  have load := fun {X : Chain → World → Prop} {q : Bool} {V : World} {L : List Own} {k : Value → World → Prop} (hS : St w L V) (h0 : L[0]? = some (.bx b1 49 (vVal (0, 0, ⟨#[]⟩)).cells)) (h : k (vVal (0, 0, ⟨#[]⟩)) V) =>
    kLoadA_st (c := ⟨Try.prog, X, q⟩) (k := k) hS 0 h0 Try.underlying49 rfl Try.sizeOf49 rfl h
  refine load hS rfl (kBoth_i ?_ ?_)
  · refine kDrew_st hS fun V hS => kCall_i (Try.call32 _ _) (of32 _ _ _ fun V hB => ?_)
    have hS := hS.bel hB
    refine load hS rfl (kSame_i (kBoth_i ?_ ?_))
    · refine kDrew_st hS fun V hS => kBS (E22 w) hS (([(2, 1, ⟨#[]⟩), (0, 0, ⟨#[]⟩)] : List AV).map vVal) rfl rfl (by omega) (by omega) (flatMap_vVal_size _) fun a8 cp8 V hS _ => ?_
      refine kDrew_st hS fun V hS => kBS (E24 w) hS (([2, 3] : List Int).map vInt) rfl rfl (by omega) (by omega) (vInts_size _) fun a9 cp9 V hS _ => kDrew_st hS fun V hS => ?_
      refine kCall_i (Try.call16 _ _) (Fits16 [(2, 1, ⟨#[]⟩), (0, 0, ⟨#[]⟩)] [2, 3] V a8 a9 cp8 cp9 (hS.sl 10 rfl (flatMap_vVal_size _) rfl) (hS.sl 11 rfl (vInts_size _) rfl) (by decide) _ fun V hBe => ?_)
      have hS := hS.bel hBe
      rw [fits1]
      refine kIf_t (load hS rfl (kDrew_st hS fun V hS => kBS (E22 w) hS (([(0, 0, ⟨#[]⟩)] : List AV).map vVal) rfl rfl (by omega) (by omega) (flatMap_vVal_size _) fun a10 cp10 V hS _ => kDrew_st hS fun V hS => ?_))
      refine kCall_i (Try.call33 _ _) (Width33 [(0, 0, ⟨#[]⟩)] V a10 cp10 (hS.sl 12 rfl (flatMap_vVal_size _) rfl) (by intro r hr; simp at hr; subst hr; exact ⟨by decide, by decide⟩) (by decide) _ fun V hBe => ?_)
      have hS := hS.bel hBe
      rw [width1]
      exact kEq_int (kDrew_st hS fun V hS => hJ _ _ ⟨hS.below, rfl⟩)
    · refine kDrew_st hS fun V hS => kBS (E24 w) hS (([2, 3] : List Int).map vInt) rfl rfl (by omega) (by omega) (vInts_size _) fun a9 cp9 V hS _ => load hS rfl (kSame_i ?_)
      refine kDrew_st hS fun V hS => kBS (E22 w) hS (([(2, 1, ⟨#[]⟩), (0, 0, ⟨#[]⟩)] : List AV).map vVal) rfl rfl (by omega) (by omega) (flatMap_vVal_size _) fun a8 cp8 V hS _ => kDrew_st hS fun V hS => ?_
      refine kCall_i (Try.call16 _ _) (Fits16 [(2, 1, ⟨#[]⟩), (0, 0, ⟨#[]⟩)] [2, 3] V a8 a9 cp8 cp9 (hS.sl 11 rfl (flatMap_vVal_size _) rfl) (hS.sl 10 rfl (vInts_size _) rfl) (by decide) _ fun V hBe => ?_)
      have hS := hS.bel hBe
      rw [fits1]
      refine kIf_t (load hS rfl (kDrew_st hS fun V hS => kBS (E22 w) hS (([(0, 0, ⟨#[]⟩)] : List AV).map vVal) rfl rfl (by omega) (by omega) (flatMap_vVal_size _) fun a10 cp10 V hS _ => kDrew_st hS fun V hS => ?_))
      refine kCall_i (Try.call33 _ _) (Width33 [(0, 0, ⟨#[]⟩)] V a10 cp10 (hS.sl 12 rfl (flatMap_vVal_size _) rfl) (by intro r hr; simp at hr; subst hr; exact ⟨by decide, by decide⟩) (by decide) _ fun V hBe => ?_)
      have hS := hS.bel hBe
      rw [width1]
      exact kEq_int (kDrew_st hS fun V hS => hJ _ _ ⟨hS.below, rfl⟩)
  · refine kDrew_st hS fun V hS => kBS (E24 w) hS (([2, 3] : List Int).map vInt) rfl rfl (by omega) (by omega) (vInts_size _) fun a9 cp9 V hS _ => load hS rfl (kSame_i ?_)
    refine kDrew_st hS fun V hS => kCall_i (Try.call32 _ _) (of32 _ _ _ fun V hB => ?_)
    have hS := hS.bel hB
    refine load hS rfl (kSame_i ?_)
    refine kDrew_st hS fun V hS => kBS (E22 w) hS (([(2, 1, ⟨#[]⟩), (0, 0, ⟨#[]⟩)] : List AV).map vVal) rfl rfl (by omega) (by omega) (flatMap_vVal_size _) fun a8 cp8 V hS _ => kDrew_st hS fun V hS => ?_
    refine kCall_i (Try.call16 _ _) (Fits16 [(2, 1, ⟨#[]⟩), (0, 0, ⟨#[]⟩)] [2, 3] V a8 a9 cp8 cp9 (hS.sl 11 rfl (flatMap_vVal_size _) rfl) (hS.sl 10 rfl (vInts_size _) rfl) (by decide) _ fun V hBe => ?_)
    have hS := hS.bel hBe
    rw [fits1]
    refine kIf_t (load hS rfl (kDrew_st hS fun V hS => kBS (E22 w) hS (([(0, 0, ⟨#[]⟩)] : List AV).map vVal) rfl rfl (by omega) (by omega) (flatMap_vVal_size _) fun a10 cp10 V hS _ => kDrew_st hS fun V hS => ?_))
    refine kCall_i (Try.call33 _ _) (Width33 [(0, 0, ⟨#[]⟩)] V a10 cp10 (hS.sl 12 rfl (flatMap_vVal_size _) rfl) (by intro r hr; simp at hr; subst hr; exact ⟨by decide, by decide⟩) (by decide) _ fun V hBe => ?_)
    have hS := hS.bel hBe
    rw [width1]
    exact kEq_int (kDrew_st hS fun V hS => hJ _ _ ⟨hS.below, rfl⟩)
end Go.L
namespace Go.L
open Go Go.RowKit Go.Proofs
set_option linter.unusedSimpArgs false
set_option linter.unusedVariables false

theorem vInt_one (r : Int) : ∀ u ∈ (vInt r).cells.toList, u.oneCell' = true := by
  simp [vInt, Value.cells, Value.oneCell']
theorem kEq_b4 {X : Chain → World → Prop} {q : Bool} {w : World} {k : Value → World → Prop} {ox oy : Operand} {x y : Bool} (h : k (.bool (x == y)) w) : kEq ⟨Try.prog, X, q⟩ w .eql 4 ox oy (.bool x) (.bool y) k := kEq_bool (c := ⟨Try.prog, X, q⟩) Try.underlying4 h
theorem flatInt_succ (ts : List Int) {i : Nat} (h : i < ts.length) : flat ((ts.take (i + 1)).map vInt) = flat ((ts.take i).map vInt) ++ (vInt ts[i]).cells.toList := by
  rw [List.take_succ_eq_append_getElem h, List.map_append]; simp only [flat, List.flatMap_append, List.map_cons, List.map_nil, List.flatMap_cons, List.flatMap_nil, List.append_nil]

theorem pick_len {l : List AV} {is : List Int} (h : okAt l.length is) : (pick l is).length = is.length := by
  induction is with
  | nil => rfl
  | cons i is ih =>
    have h1 := h i (List.mem_cons_self ..)
    have h2 : i.toNat < l.length := by omega
    simp only [pick, List.filterMap_cons, List.getElem?_eq_getElem h2, List.length_cons]
    rw [← ih (fun j hj => h j (List.mem_cons_of_mem _ hj))]; rfl
theorem RowPicks3 (l : List AV) (is ts : List Int) (w : World) (lo ao to : Option Addr) (lc ac tc : Nat) (hl : Sl w lo 3 (l.map vVal)) (hi : Sl w ao 1 (is.map vInt)) (ht : Sl w to 1 (ts.map vInt)) (hll : l.length ≤ 9223372036854775807) (hr : ∀ r ∈ l, Rng r)
    (R : Ending → World → Prop) (h : ∀ W, Below w.heap.size w W → R (.returned (.bool true)) W) : Calls Try.prog 3 #[.slice lo l.length lc, .slice ao is.length ac, .slice to ts.length tc] w R := by
  refine c3 _ _ _ _ _ _ _ _ _ _ _ ?_
  unfold vc3
  have wk : ∀ W, Below w.heap.size w W → Calls Try.prog 11 #[] W (after (fun v W => R (.returned v) W) (fun ch W => R (.panicked ch) W)) := fun W hB => works11 W _ fun W' hB' => h W' (hB.trans (hB'.mono hB.size))
  refine kJn_inv (fun cs W => Below w.heap.size w W ∧ l.length ≤ 40 ∧ is.length ≤ 40 ∧ ts.length ≤ 40) ?_ ?_
  · rintro cs W1 ⟨hB1, h1, h2, h3⟩ ds
    refine ⟨⟨fun cs W => ∃ (i : Nat) (x : Value), cs = [x, .int .i64 i] ∧ i ≤ ts.length ∧ St w [.row x 3 1 i (flat ((ts.take i).map vInt))] W, fun cs _ => ts.length - (match cs with | [_, .int _ i] => i.toNat | _ => 0), ⟨0, .slice none 0 0, rfl, by omega, ?_⟩, ?_⟩⟩
    · have := (St.start w).bel hB1
      exact this.adopt (o := .row (.slice none 0 0) 3 1 0 []) (World.ownsRow_nil _ _ _ _) (fun p hp => by simp at hp)
    rintro cs ds W ⟨i, x, rfl, hit, hS⟩
    dsimp only [List.getD_cons_zero, List.getD_cons_succ]
    refine kLen24 (kBin_lss (kIf_d (fun hlt => ?_) (fun hge => ?_)))
    · have hlt' : i < ts.length := by omega
      obtain ⟨b, o, rfl, hbl, hrr⟩ := (ht.below hS.below).elem (i := i) (v := vInt ts[i]) (by simp [hlt'])
      refine kIa24 hlt' (kLdS rfl (hrr 0 _ rfl) (kBuildS_st (E23 w) hS [vInt ts[i]] rfl rfl (by omega) (by omega) (by simp [vInt, Value.cells]) fun y W hS => kAppRow_st (E23 w) hS 0 1 rfl rfl (by simp [flat, vInt, Value.cells, Value.oneCell']) (by simp [maxLen]; omega) (by omega) fun x' W hS => ?_))
      have hS := hS.take 1
      refine kBin_add (kD_i ⟨⟨i + 1, x', by rw [wrap_id (by omega) (by omega)]; rfl, hlt', ?_⟩, ?_⟩)
      · rw [flatInt_succ ts hlt']
        have e : flat [vInt ts[i]] = (vInt ts[i]).cells.toList := by simp [flat]
        rw [← e]; exact hS
      · rw [wrap_id (by omega) (by omega)]; show ts.length - ((i : Int) + 1).toNat < ts.length - (i : Int).toNat; omega
    · have hi' : i = ts.length := by omega
      subst hi'
      rw [List.take_length] at hS
      have hrow : W.ownsRow w.heap.size 3 1 x ts.length (flat (ts.map vInt)) := hS.get 0 rfl
      obtain ⟨xa, xc, rfl, hx⟩ := Sl.of_owns (vInts_size ts) hrow (by simp)
      -- what follows the picking
      have tail : ∀ (V : World) (L : List Own), St w (Own.row (.slice xa ts.length xc) 3 1 ts.length (flat (ts.map vInt)) :: L) V → ∀ k : Value → World → Prop, (∀ W, Below w.heap.size w W → k (.bool true) W) →
          kCall (cR Try.prog R) V 16 #[(.slice lo l.length lc), (.slice to ts.length tc)] fun v73 w_16 => kCall (cR Try.prog R) w_16 17 #[(.slice lo l.length lc), (.slice xa ts.length xc)] fun v76 w_17 => kEq (cR Try.prog R) w_17 .eql 4 (.tmp 73) (.tmp 76) v73 v76 k := by
        intro V L hS k hk
        refine kCall_i (Try.call16 _ _) (Fits16 l ts V lo to lc tc (hl.below hS.below) (ht.below hS.below) (by omega) _ fun V hBe => ?_)
        have hS := hS.bel hBe
        refine kCall_i (Try.call17 _ _) (refFits17 l ts V lo xa lc xc (hl.below hS.below) (hS.sl 0 rfl (vInts_size ts) (by simp)) (by omega) _ fun V hBe => kEq_b4 ?_)
        rw [beq_self_eq_true]
        exact hk _ (hS.bel hBe).below
      refine kCall_i (Try.call12 _ _) (Pick12 l is W lo ao lc ac (hl.below hS.below) (hi.below hS.below) (by omega) (by omega) _ fun V hBe => ⟨fun hno => ?_, fun hok p hp => ?_⟩)
      · have hS := hS.bel hBe
        refine kExt_0 (kExt_1 (kCall_i (Try.call13 _ _) (refPick13 l is V lo ao lc ac (hl.below hS.below) (hi.below hS.below) (by omega) (by omega) _ fun V hBe => ⟨fun _ => ?_, fun hok => absurd hok hno⟩)))
        have hS := hS.bel hBe
        refine kExt_0 (kExt_1 (kCall_i (Try.call14 _ _) (same14 [] [] V none none 0 0 (Sl.nil _ _) (Sl.nil _ _) (by simp) (by simp) _ fun V hBe => ?_)))
        have hS := hS.bel hBe
        refine kIf_t (kCall_i (Try.call15 _ _) (num15 _ _ _ (kEq_int (kEq_b4 (kIf_t (kIf_f (kCall_i (Try.call15 _ _) (num15 _ _ _ (kEq_int (kIf_t ?_))))))))))
        exact tail _ _ hS _ fun W hB => kIf_t (kCall_i (Try.call11 _ _) (wk W hB))
      · have hS := hS.made hBe hp
        refine kExt_0 (kExt_1 (kCall_i (Try.call13 _ _) (refPick13 l is V lo ao lc ac (hl.below hS.below) (hi.below hS.below) (by omega) (by omega) _ fun V hBe => ⟨fun hno => absurd hok hno, fun _ p2 hp2 => ?_⟩)))
        have hS := hS.made hBe hp2
        have hpl : (pick l is).length = is.length := pick_len hok
        have hrp : V.ownsRow w.heap.size 49 3 p _ _ := hS.get 1 rfl
        have hrp2 : V.ownsRow w.heap.size 49 3 p2 _ _ := hS.get 2 rfl
        obtain ⟨pa, pc, rfl, hpa⟩ := Sl.of_owns (flatMap_vVal_size _) hrp (by simpa using hpl)
        obtain ⟨pb, pd, rfl, hpb⟩ := Sl.of_owns (flatMap_vVal_size _) hrp2 (by simpa using hpl)
        refine kExt_0 (kExt_1 (kCall_i (Try.call14 _ _) ?_))
        rw [← hpl]
        refine same14 (pick l is) (pick l is) V pa pb pc pd hpa hpb (by omega) (by omega) _ fun V hBe => ?_
        have hS := hS.bel hBe
        rw [decide_eq_true rfl]
        refine kIf_t (kCall_i (Try.call15 _ _) (num15 _ _ _ (kEq_int (kEq_b4 (kIf_t (kIf_t ?_))))))
        exact tail _ _ hS _ fun W hB => kIf_t (kCall_i (Try.call11 _ _) (wk W hB))
  · intro J hJ
    refine kCall_i (Try.call10 _ _) (few10 l w lo lc hl hll _ (kUn_not (kIf_nd (fun hno => kIf_t (kCall_i (Try.call11 _ _) (wk _ (Below.refl _ _)))) (fun hyes => ?_))))
    refine kLen23 (kBin_gtr (kIf_d (fun h2 => kIf_t (kCall_i (Try.call11 _ _) (wk _ (Below.refl _ _)))) (fun h2 => ?_)))
    refine kLen24 (kBin_gtr (kIf_d (fun h3 => kCall_i (Try.call11 _ _) (wk _ (Below.refl _ _))) (fun h3 => ?_)))
    exact kD_i (hJ _ _ ⟨Below.refl _ _, hyes.2, by omega, by omega⟩)
end Go.L
namespace Go.L
open Go Go.RowKit Go.Proofs Go.ChangeShapes Go.WideShapes Go.ChangeAt
set_option linter.unusedSimpArgs false
set_option linter.unusedVariables false

theorem laidOut : laidOutB Try.prog = true := by kernel_rfl
theorem own : ownKnob Try.prog.godebug = none := by kernel_rfl
theorem cells49 : Try.prog.cellsOf 49 = 3 := by kernel_rfl
theorem cells3 : Try.prog.cellsOf 3 = 1 := by kernel_rfl
theorem cells27 : Try.prog.cellsOf 27 = 1 := by kernel_rfl
theorem cells5 : Try.prog.cellsOf 5 = 1 := by kernel_rfl

section
variable {H : Type} {enc : TypeId × Value → H} {W : World}
theorem el49 (n : Nat) (c1 : List Value) (y : DataW H × List MemPlace) (h : DataW.trod enc Try.prog W 0 (fun _ => true) true n 49 c1 = some y) : ∃ r : AV, c1 = (vVal r).cells.toList ∧ Rng r := by
  obtain ⟨xs, m, _, _, hlen, hx, hf⟩ := DataW.trod_struct Try.underlying49 h
  rw [cells49] at hlen
  obtain ⟨v0, v1, v2, rfl⟩ : ∃ v0 v1 v2, c1 = [v0, v1, v2] := by
    cases c1 with
    | nil => cases hlen
    | cons v0 l =>
      cases l with
      | nil => simp at hlen
      | cons v1 l =>
        cases l with
        | nil => simp at hlen
        | cons v2 l =>
          cases l with
          | nil => exact ⟨_, _, _, rfl⟩
          | cons v3 l => simp at hlen
  · skip
    have h0 : DataW.trod enc Try.prog W 0 (fun _ => true) true m 47 (([v0, v1, v2].drop 0).take (Try.prog.cellsOf 47)) = xs[0]? := hf 0 _ rfl
    have h1 : DataW.trod enc Try.prog W 0 (fun _ => true) true m 2 (([v0, v1, v2].drop 1).take (Try.prog.cellsOf 2)) = xs[1]? := hf 1 _ rfl
    have h2 : DataW.trod enc Try.prog W 0 (fun _ => true) true m 9 (([v0, v1, v2].drop 2).take (Try.prog.cellsOf 9)) = xs[2]? := hf 2 _ rfl
    have c47 : Try.prog.cellsOf 47 = 1 := by kernel_rfl
    have c2 : Try.prog.cellsOf 2 = 1 := by kernel_rfl
    have c9 : Try.prog.cellsOf 9 = 1 := by kernel_rfl
    simp only [c47, c2, c9, List.drop_zero, List.take_succ_cons, List.take_zero, List.drop_succ_cons] at h0 h1 h2
    have hx3 : xs.length = 3 := hx
    obtain ⟨x0, hx0⟩ : ∃ x, xs[0]? = some x := ⟨xs[0], by simp [hx3]⟩
    obtain ⟨x1, hx1⟩ : ∃ x, xs[1]? = some x := ⟨xs[1], by simp [hx3]⟩
    obtain ⟨x2, hx2⟩ : ∃ x, xs[2]? = some x := ⟨xs[2], by simp [hx3]⟩
    rw [hx0] at h0
    rw [hx1] at h1
    rw [hx2] at h2
    obtain ⟨n0, e0, _, w0⟩ := DataW.trod_int Try.underlying47 h0
    obtain ⟨n1, e1, _, w1⟩ := DataW.trod_int Try.underlying2 h1
    obtain ⟨s, e2, _, _⟩ := DataW.trod_string Try.underlying9 h2
    simp only [List.cons.injEq, and_true] at e0 e1 e2
    subst e0; subst e1; subst e2
    refine ⟨(n0, n1, s), rfl, ?_⟩
    simpa [Lit.wf, IntKind.min, IntKind.max, IntKind.signed, IntKind.bits, Rng] using w1
theorem el_int {e : TypeId} (he : Try.prog.underlying e = some (.int .i64)) (n : Nat) (c1 : List Value) (y : DataW H × List MemPlace) (h : DataW.trod enc Try.prog W 0 (fun _ => true) true n e c1 = some y) : ∃ r : Int, c1 = (vInt r).cells.toList ∧ (-9223372036854775808 ≤ r ∧ r ≤ 9223372036854775807) := by
  obtain ⟨n0, rfl, _, w0⟩ := DataW.trod_int he h
  exact ⟨n0, rfl, by simpa [Lit.wf, IntKind.min, IntKind.max, IntKind.signed, IntKind.bits] using w0⟩
theorem el_byte (n : Nat) (c1 : List Value) (y : DataW H × List MemPlace) (h : DataW.trod enc Try.prog W 0 (fun _ => true) true n 5 c1 = some y) : ∃ r : Nat, c1 = (vB r).cells.toList ∧ r < 256 := by
  obtain ⟨n0, rfl, _, w0⟩ := DataW.trod_int Try.underlying5 h
  have : 0 ≤ n0 ∧ n0 ≤ 255 := by simpa [Lit.wf, IntKind.min, IntKind.max, IntKind.signed, IntKind.bits] using w0
  exact ⟨n0.toNat, by simp [vB, Value.cells, Int.toNat_of_nonneg this.1], by omega⟩
end

end Go.L
namespace Go.L
open Go Go.RowKit Go.Proofs
set_option linter.unusedSimpArgs false
set_option linter.unusedVariables false

theorem readF_numB (rest : List Nat) : ∀ (n i acc : Nat), n * 128 ^ i < 18446744073709551616 → (i = 0 ∨ 0 < n) → readF i (numB n ++ rest) acc = some (acc + n * 128 ^ i, i + (numB n).length) := by
  intro n
  induction n using Nat.strongRecOn with
  | _ n ih =>
    intro i acc hn hi
    have h10 : i ≤ 9 := by
      rcases hi with h | h
      · omega
      · rcases Nat.lt_or_ge i 10 with h1 | h1
        · omega
        · have h2 : 128 ^ 10 ≤ 128 ^ i := Nat.pow_le_pow_right (by omega) h1
          have h3 : 1 * 128 ^ i ≤ n * 128 ^ i := Nat.mul_le_mul_right _ h
          have : (128 : Nat) ^ 10 = 1180591620717411303424 := by decide
          omega
    have h9 : i = 9 → n ≤ 1 := fun h => by
      subst h
      have : (128 : Nat) ^ 9 = 9223372036854775808 := by decide
      omega
    rw [numB]
    split
    · rename_i hs
      simp only [List.singleton_append, readF]
      rw [if_neg (by omega), if_neg (by intro h; have := h9 h.1; omega), if_neg (by omega), if_neg (by omega)]
      simp
    · rename_i hs
      simp only [List.cons_append, readF]
      rw [if_neg (by omega), if_neg (by intro h; have := h9 h.1; omega), if_pos (by omega)]
      have e1 : (n % 128 + 128) % 128 = n % 128 := by omega
      have e3 : n / 128 * 128 ^ (i + 1) = n / 128 * 128 * 128 ^ i := by rw [Nat.pow_succ, Nat.mul_comm (128 ^ i), Nat.mul_assoc]
      have e4 : n / 128 * 128 * 128 ^ i + n % 128 * 128 ^ i = n * 128 ^ i := by rw [← Nat.add_mul]; congr 1; omega
      rw [ih (n / 128) (by omega) (i + 1) _ (by omega) (.inr (by omega)), e1, e3]
      simp only [List.length_cons, Option.some.injEq, Prod.mk.injEq]
      omega
theorem readN_numB (n : Nat) (hn : n < 18446744073709551616) (rest : List Nat) : readN (numB n ++ rest) = some (n, (numB n).length) := by
  have := readF_numB rest n 0 0 (by simpa using hn) (.inl rfl)
  simpa [readN] using this
theorem readS_strB (s : ByteArray) (hs : s.size ≤ 1000000) (rest : List Nat) : readS (strB s ++ rest) = some (bl s, (strB s).length) := by
  simp only [readS, strB, List.append_assoc]
  rw [readN_numB _ (by omega)]
  simp only []
  rw [if_pos (by simp only [List.length_append, bl_length]; omega), List.drop_left, show s.size = (bl s).length from (bl_length s).symm, List.take_left]
  simp
theorem unzig_zig (n : Int) : unzig (zig n) = n := by
  unfold unzig zig
  split
  · rw [if_pos (by omega)]; omega
  · rw [if_neg (by omega)]; omega
theorem zig_lt {r : AV} (hr : Rng r) : zig r.2.1 < 18446744073709551616 := by
  have h1 := hr.1
  have h2 := hr.2
  unfold zig; split <;> omega
theorem readV_enc1 (r : AV) (hc : checkE r = 0) (hr : Rng r) (rest : List Nat) : readV (enc1 r ++ rest) = some (r, (enc1 r).length) := by
  have hsz := checkE_size hc
  have hz := zig_lt hr
  obtain ⟨k, n, s⟩ := r
  have hsz : s.size ≤ 1000 := hsz
  have hcond : 0 ≤ k ∧ k ≤ 4 ∧ (k < 3 → s = ⟨#[]⟩) ∧ (k ≠ 1 → k ≠ 2 → n = 0) ∧ (k = 1 → n = 0 ∨ n = 1) := by
    simp only [checkE] at hc
    rw [if_neg (by omega)] at hc
    split at hc
    · omega
    · rename_i hh
      have h1 : k < 3 → s = ⟨#[]⟩ := fun h => Classical.byContradiction fun hs => hh (.inr (.inr (.inl ⟨h, hs⟩)))
      exact ⟨by omega, by omega, h1, by omega, by omega⟩
  obtain ⟨h0, h4, hs, hn, hb⟩ := hcond
  have : k = 0 ∨ k = 1 ∨ k = 2 ∨ k = 3 ∨ k = 4 := by omega
  rcases this with rfl | rfl | rfl | rfl | rfl
  · have := hs (by omega); subst this
    have := hn (by omega) (by omega); subst this
    simp [enc1, layB, readV]
  · have := hs (by omega); subst this
    have := hb rfl
    simp only [enc1, layB, if_true, List.cons_append, readV, List.nil_append]
    rcases this with rfl | rfl <;> simp
  · have := hs (by omega); subst this
    have e : readN (numB (zig n) ++ rest) = some (zig n, (numB (zig n)).length) := readN_numB _ hz rest
    simp [enc1, layB, readV, e, unzig_zig]; omega
  · have := hn (by omega) (by omega); subst this
    have e := readS_strB s (by omega) rest
    simp [enc1, layB, readV, e, mkS_bl]; omega
  · have := hn (by omega) (by omega); subst this
    have e := readS_strB s (by omega) rest
    simp [enc1, layB, readV, e, mkS_bl]; omega
theorem readVs_enc (rest : List Nat) : ∀ (rows : List AV), (∀ r ∈ rows, checkE r = 0) → (∀ r ∈ rows, Rng r) → readVs rows.length (rows.flatMap enc1 ++ rest) = some (rows, (rows.flatMap enc1).length)
  | [], _, _ => rfl
  | r :: rows, hc, hr => by
    simp only [List.length_cons, readVs, List.flatMap_cons, List.append_assoc]
    rw [readV_enc1 r (hc r (List.mem_cons_self ..)) (hr r (List.mem_cons_self ..))]
    simp only [List.drop_left]
    rw [readVs_enc rest rows (fun q hq => hc q (List.mem_cons_of_mem _ hq)) (fun q hq => hr q (List.mem_cons_of_mem _ hq))]
    simp
theorem badE_zero : ∀ {rows : List AV}, badE rows = 0 → ∀ r ∈ rows, checkE r = 0
  | [], _, r, hr => by cases hr
  | q :: rows, h, r, hr => by
    simp only [badE] at h
    split at h
    · rename_i h2; exact absurd h h2
    · rename_i h2
      rcases List.mem_cons.1 hr with rfl | hr
      · omega
      · exact badE_zero h r hr
theorem encE_bad {rows : List AV} (h : encE rows = 0) : badE rows = 0 := by
  unfold encE at h
  split at h
  · rename_i h2; exact absurd h h2
  · rename_i h2; omega
theorem decR_encB (rows : List AV) (h : encE rows = 0) (hr : ∀ r ∈ rows, Rng r) : decR (encB rows) = some rows := by
  have hb := enc_bound h
  have hc := badE_zero (encE_bad h)
  have e : encB rows = numB rows.length ++ rows.flatMap enc1 := rfl
  have e2 := readVs_enc [] rows hc hr
  rw [List.append_nil] at e2
  have e1 := readN_numB rows.length (by omega) (rows.flatMap enc1)
  have e3 : readN (encB rows) = some (rows.length, (numB rows.length).length) := by rw [e]; exact e1
  have e4 : List.drop (numB rows.length).length (encB rows) = rows.flatMap enc1 := by rw [e, List.drop_left]
  simp only [decR, e3, if_pos hb.1, e4, e2]
  simp [h]
theorem encB_inj {a b : List AV} (ha : encE a = 0) (hb : encE b = 0) (hra : ∀ r ∈ a, Rng r) (hrb : ∀ r ∈ b, Rng r) (h : encB a = encB b) : a = b := by
  have h1 := decR_encB a ha hra
  rw [h, decR_encB b hb hrb] at h1
  exact (Option.some.inj h1).symm
end Go.L
namespace Go.L
open Go Go.RowKit Go.Proofs
set_option linter.unusedSimpArgs false
set_option linter.unusedVariables false

theorem encE_012 (rows : List AV) : encE rows = 0 ∨ encE rows = 2 ∨ encE rows = 3 := by
  have hb : ∀ rows : List AV, badE rows = 0 ∨ badE rows = 2 ∨ badE rows = 3 := by
    intro rows
    induction rows with
    | nil => exact .inl rfl
    | cons r l ih =>
      simp only [badE]
      split
      · simp only [checkE]; repeat' split
        all_goals omega
      · exact ih
  unfold encE
  have := hb rows
  split
  · omega
  split <;> omega
theorem bs_256 (rows : List AV) : ∀ b ∈ encB rows, b < 256 → True := fun _ _ _ => trivial
theorem numB_256 : ∀ (n : Nat), ∀ b ∈ numB n, b < 256 := by
  intro n
  induction n using Nat.strongRecOn with
  | _ n ih =>
    intro b hb
    rw [numB] at hb
    split at hb
    · simp at hb; omega
    · rcases List.mem_cons.1 hb with h | h
      · omega
      · exact ih _ (by omega) b h
theorem bl_256 (s : ByteArray) : ∀ b ∈ bl s, b < 256 := by
  intro b hb
  simp only [bl, List.mem_map] at hb
  obtain ⟨c, _, rfl⟩ := hb
  exact c.toNat_lt
theorem enc1_256 {r : AV} (hc : checkE r = 0) : ∀ b ∈ enc1 r, b < 256 := by
  have hsz := checkE_size hc
  obtain ⟨k, n, s⟩ := r
  have hcond : 0 ≤ k ∧ k ≤ 4 ∧ (k = 1 → n = 0 ∨ n = 1) := by
    have hsz : s.size ≤ 1000 := hsz
    simp only [checkE] at hc
    rw [if_neg (by omega)] at hc
    split at hc
    · omega
    · rename_i hh; exact ⟨by omega, by omega, by omega⟩
  intro b hb
  simp only [enc1, List.mem_cons] at hb
  rcases hb with rfl | hb
  · show k.toNat < 256; omega
  · simp only [layB] at hb
    split at hb
    · rename_i h1; have := hcond.2.2 h1; simp at hb; omega
    split at hb
    · exact numB_256 _ b hb
    split at hb
    · simp only [strB, List.mem_append] at hb
      rcases hb with hb | hb
      · exact numB_256 _ b hb
      · exact bl_256 _ b hb
    · cases hb
theorem encB_256 {rows : List AV} (h : badE rows = 0) : ∀ b ∈ encB rows, b < 256 := by
  intro b hb
  simp only [encB, List.mem_append, List.mem_flatMap] at hb
  rcases hb with hb | ⟨r, hr, hb⟩
  · exact numB_256 _ b hb
  · exact enc1_256 (badE_zero h r hr) b hb
theorem mkS_inj {a b : List Nat} (ha : ∀ x ∈ a, x < 256) (hb : ∀ x ∈ b, x < 256) (h : mkS a = mkS b) : a = b := by
  rw [← bl_mkS ha, ← bl_mkS hb, h]
theorem pick_all (a : List AV) : okAt a.length ((List.range a.length).map (fun (i : Nat) => (i : Int))) ∧ pick a ((List.range a.length).map (fun (i : Nat) => (i : Int))) = a := by
  refine ⟨fun i hi => ?_, ?_⟩
  · obtain ⟨j, hj, rfl⟩ := List.mem_map.1 hi
    have := List.mem_range.1 hj
    omega
  · simp only [pick, List.filterMap_map]
    have : ((fun (i : Int) => a[i.toNat]?) ∘ fun (i : Nat) => (i : Int)) = fun i : Nat => a[i]? := by funext i; simp
    rw [this]
    apply List.ext_getElem?
    intro n
    have h2 : ∀ k, k ≤ a.length → (List.range k).filterMap (fun i => a[i]?) = a.take k := by
      intro k
      induction k with
      | zero => simp
      | succ k ih =>
        intro hk
        rw [List.range_succ, List.filterMap_append, ih (by omega), List.take_succ_eq_append_getElem (by omega)]
        simp [show k < a.length by omega]
    rw [h2 _ (Nat.le_refl _), List.take_length]
end Go.L
