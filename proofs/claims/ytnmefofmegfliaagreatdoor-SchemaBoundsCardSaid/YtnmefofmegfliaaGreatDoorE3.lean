/- An evaluation of the translation's functions, shown sound: no condition. -/
import Derived.Test.YtnmefofmegfliaaGreatDoorE2
import Derived.Deep.AppendSrc
import Derived.Deep.Upon
import Derived.ArgAppend
import Derived.Laws.IdiomStrings
import Derived.Lib.ConvBytes
import Derived.MapKept
set_option linter.unusedVariables false
set_option linter.unusedSimpArgs false
set_option linter.unusedSectionVars false
namespace Go.L.Ev
open Go Go.RowKit
variable [Ext]
set_option linter.unusedSimpArgs false
set_option linter.unusedVariables false
section
variable {P : Program} {ty : TyT} {fu : FuT}

theorem cellsOfStr_inv : ∀ (i m : Nat) {κ : List RV → Bool}, cellsOfStr i m κ = true → ∃ l, κ l = true ∧ ∀ δ, decL δ l = some ((bytesOf i m).map fun b => Value.int .u8 b.toNat)
  | 0, m, κ, h => ⟨[], h, fun δ => decL_nil⟩
  | i + 1, m, κ, h => by
    have h : (natF (Nat.mod m 256) fun b => cellsOfStr i (Nat.div m 256) fun r => κ (.int .u8 (.ofNat b) :: r)) = true := h
    rw [natF_eq] at h
    obtain ⟨l, h1, hl⟩ := cellsOfStr_inv i (m / 256) h
    refine ⟨_, h1, fun δ => ?_⟩
    rw [bytesOf, List.map_cons]
    refine decL_cons ?_ (hl δ)
    simp only [dec]
    simp
    show ((m % 256 : Nat) : Int) = _
    omega
theorem RelA.cs {F : Frm} {δ : Pl} {h : Hp} {W : World} (H : RelA F δ h W) {i : Nat} {cs : List RV} (hc : (h.at i).cs = some cs) : ∃ b c vs, δ i = some (b, c) ∧ decL δ cs = some vs ∧ W.rangeAt b 0 vs := by
  obtain ⟨b, c, hb, ho⟩ := H.own i (Ob.cs_ne hc)
  obtain ⟨vs, h1, h2⟩ := ho.cells hc
  exact ⟨b, c, vs, hb, h1, h2⟩
theorem slCells_ok {h : Hp} {sz : Nat} {v : RV} {κ : Nat → List RV → Bool} (hk : slCells h sz v κ = true) : ∃ m l, κ m l = true ∧ ∀ F δ W a, RelA F δ h W → dec δ v = some a → ∃ us, decL δ l = some us ∧ us.length = m * sz ∧
    ((∃ c, a = .slice none 0 c ∧ m = 0 ∧ us = []) ∨ ∃ ad c, a = .slice (some ad) m c ∧ ∀ j u, us[j]? = some u → W.cell? (ad.add j) = some u) := by
  have key : ∀ i off len, (obK h i fun cs => dropK cs off fun l => takeK l (Nat.mul len sz) fun l => κ len l) = true → (∀ δ a, dec δ v = some a → ∃ b c cp, δ i = some (b, c) ∧ a = .slice (some ⟨b, off, none⟩) len cp) →
      ∃ m l, κ m l = true ∧ ∀ F δ W a, RelA F δ h W → dec δ v = some a → ∃ us, decL δ l = some us ∧ us.length = m * sz ∧
    ((∃ c, a = .slice none 0 c ∧ m = 0 ∧ us = []) ∨ ∃ ad c, a = .slice (some ad) m c ∧ ∀ j u, us[j]? = some u → W.cell? (ad.add j) = some u) := by
    intro i off len h1 h2
    obtain ⟨cs, hcs, h3⟩ := obK_cs h1
    obtain ⟨e1, h4⟩ := dropK_inv h3
    obtain ⟨e2, h5⟩ := takeK_inv h4
    refine ⟨len, _, h5, fun F δ W a hR ha => ?_⟩
    obtain ⟨b, c, cp, hb, rfl⟩ := h2 δ a ha
    obtain ⟨b', c', vs, hb', hvs, hr⟩ := hR.cs hcs
    rw [hb] at hb'; cases hb'
    have e2 : len * sz ≤ (cs.drop off).length := e2
    have hl := decL_len hvs
    refine ⟨_, decL_take _ (decL_drop off hvs), ?_, .inr ⟨_, _, rfl, fun j u hj => ?_⟩⟩
    · show ((vs.drop off).take (len * sz)).length = len * sz
      simp at e2 ⊢; omega
    · rw [Addr.add_mid]
      have := rangeAt_take (n := Nat.mul len sz) (rangeAt_drop (n := off) hr) j u hj
      simpa using this
  cases v with
  | slc i off ce len =>
      refine key i off len hk fun δ a ha => ?_
      obtain ⟨b, c, hb, _, ha⟩ := dec_slc ha
      exact ⟨b, c, _, hb, ha⟩
  | asl i off len cap =>
      refine key i off len hk fun δ a ha => ?_
      simp only [dec, Option.map_eq_some_iff] at ha
      obtain ⟨⟨b, c⟩, hb, ha⟩ := ha
      exact ⟨b, c, _, hb, ha.symm⟩
  | nils =>
    refine ⟨0, [], hk, fun F δ W a hR ha => ⟨[], decL_nil, by simp, .inl ⟨0, ?_, rfl, rfl⟩⟩⟩
    simp only [dec, Option.some.injEq] at ha; exact ha.symm
  | emp i off ce dl s =>
    refine ⟨0, [], hk, fun F δ W a hR ha => ?_⟩
    obtain ⟨ad, cp, rfl⟩ := dec_emp ha
    exact ⟨[], decL_nil, by simp, .inr ⟨ad, cp, rfl, fun j u hj => by simp at hj⟩⟩
  | _ => exact absurd (show false = true from hk) (by decide)
theorem srcCells_ok (p : Pg P ty fu) {ats : List TypeId} {h : Hp} {sz : Nat} {v : RV} {κ : Nat → List RV → Bool} (hk : srcCells ty ats h sz v κ = true) : ∃ tx m l, ats[1]? = some tx ∧ κ m l = true ∧ ∀ F δ W a, RelA F δ h W → dec δ v = some a →
    ∃ us, decL δ l = some us ∧ us.length = m * sz ∧ ((∀ u ∈ us, u.oneCell' = true) → Go.Src P sz tx a m us W) := by
  obtain ⟨tx, htx, h1⟩ := nthK_inv hk
  obtain ⟨d, hu, h2⟩ := undK_inv p h1
  rcases iff_inv h2 with ⟨e1, h3⟩ | ⟨e1, h3⟩
  · cases kind3 e1
    obtain ⟨e2, h4⟩ := iff_t h3
    cases Nat.eq_of_beq_eq_true e2
    obtain ⟨m, i, rfl, hw, h5⟩ := rvStr_inv h4
    obtain ⟨l, h6, hl⟩ := cellsOfStr_inv i m h5
    refine ⟨tx, i, l, htx, h6, fun F δ W a hR ha => ⟨_, hl δ, by simp [bytesOf_len], fun _ => ?_⟩⟩
    rw [dec_str hw ha]
    have := Src.ofString (P := P) W hu (strOf m i)
    rw [strOf_size] at this
    exact this
  · obtain ⟨e2, h4⟩ := iff_t h3
    obtain ⟨e', rfl⟩ := kind5 e2
    obtain ⟨m, l, h5, hl⟩ := slCells_ok h4
    refine ⟨tx, m, l, htx, h5, fun F δ W a hR ha => ?_⟩
    obtain ⟨us, h6, h7, h8⟩ := hl F δ W a hR ha
    refine ⟨us, h6, h7, fun h1 => ?_⟩
    rcases h8 with ⟨c, rfl, rfl, rfl⟩ | ⟨ad, c, rfl, hc⟩
    · exact Go.Src.ofNil W hu c
    · exact Go.Src.ofSlice W hu ad m c us h7 hc h1
end
end Go.L.Ev
namespace Go.L.Ev
open Go Go.RowKit
variable [Ext]
set_option linter.unusedSimpArgs false
set_option linter.unusedVariables false
section
variable {P : Program} {ty : TyT} {fu : FuT}

/-- A new row, of what was there and what comes. -/
theorem grow_ok (p : Pg P ty fu) {t tx tr e : TypeId} {ti : TypeInfo} (ht : InT ty t) (hu : P.underlying t = some (.slice e)) (hti : P.info? e = some ti) (h0 : 0 < ti.size) (h1 : ti.size ≤ 1024) {W : World} {base : Option Addr} {sLen sCap : Nat} {olds : List Value}
    (hold : (Builtin.firstCells ti.size sLen (.slice base sLen sCap)).run P W.drew = .ok olds.toArray W.drew) (hol : olds.length = sLen * ti.size) {x : Value} {n : Nat} {news : List Value} (hs : Go.Src P ti.size tx x n news W) (hg : sCap < sLen + n) (hn : sLen + n ≤ 1000000) :
    ∃ cap W', (Builtin.append_ #[t, tx] tr #[.slice base sLen sCap, x]).run P W = .ok (.slice (some ⟨W.heap.size, 0, none⟩) (sLen + n) cap) W' ∧ W.grownBy W' none ∧ W'.ownsRow 0 e ti.size (.slice (some ⟨W.heap.size, 0, none⟩) (sLen + n) cap) (sLen + n) (olds ++ news) := by
  obtain ⟨hby, z, hz, hzs⟩ := p.zOk t e ti ht hu hti h1
  have hb : (sLen + n) * ti.bytes ≤ 140737488355328 := Nat.le_trans (Nat.mul_le_mul hn hby) (by decide)
  have hr := run_append_grow_src (P := P) W t tx tr e ti z hu hti hz base sLen sCap olds hold x n news hs hg (by omega) (growslice_fits hg hb)
  have hmax : sLen + n ≤ maxLen := by simp only [maxLen]; omega
  have hge := grownCap_ge W (sLen + n) sCap e
  have hcm := grownCap_le_maxLen W (sLen + n) sCap e hmax
  have hlen : (olds ++ news).length = (sLen + n) * ti.size := by rw [List.length_append, hol, hs.newsLen, Nat.add_mul]
  refine ⟨_, _, hr, ⟨rfl, rfl, rfl, by simp, fun k hk _ => heap_alloc_old W.drew _ k hk⟩, hlen, .inr ⟨W.heap.size, _, _, rfl, Nat.zero_le _, heap_alloc_new W.drew _, hge, hcm, ?_, ?_⟩⟩
  · rw [Array.size_append, List.size_toArray, size_zeroCells, hzs, hlen, ← Nat.add_mul]
    congr 1
    omega
  · rw [Array.toList_append]
    show List.take _ ((olds ++ news) ++ _) = _
    rw [List.take_append_of_le_length (Nat.le_of_eq hlen.symm)]
    exact List.take_of_length_le (Nat.le_of_eq hlen)
/-- The answer of an append: a row of its own. -/
theorem obR_own {F : Frm} {δ : Pl} {W : World} {b n cap : Nat} {e : TypeId} {sz : Nat} {cs : List RV} {vs : List Value} (hf : F.free b) (h : decL δ cs = some vs) (ho : W.ownsRow 0 e sz (.slice (some ⟨b, 0, none⟩) n cap) n vs) : ObR F δ b cap W (.row e sz n cs) := ⟨hf, vs, h, ho⟩
theorem owns_le {W : World} {b n cap : Nat} {e : TypeId} {sz : Nat} {vs : List Value} (ho : W.ownsRow 0 e sz (.slice (some ⟨b, 0, none⟩) n cap) n vs) : n ≤ cap := by
  rcases ho.2 with ⟨hv, _⟩ | ⟨g, c, cur, hv, _, _, hnc, _⟩
  · cases hv
  · cases hv; exact hnc
theorem firstCells_some {W : World} {sz n cap : Nat} {ad : Addr} {vs : List Value} (hl : vs.length = n * sz) (hc : ∀ j u, vs[j]? = some u → W.cell? (ad.add j) = some u) : (Builtin.firstCells sz n (.slice (some ad) n cap)).run P W.drew = .ok vs.toArray W.drew :=
  run_firstCells_some W.drew sz n ad n cap vs hl (by simpa using hc)
/-- What is asked of an append that adds something. -/
def AppOK (P : Program) (t tr : TypeId) (sz m : Nat) (x : RV) (cs : List RV) (h : Hp) (r : RV) (h' : Hp) : Prop :=
  Grow h h' ∧ ∀ F δ W a us tx y, Rel F δ h W → dec δ x = some a → decL δ cs = some us → Go.Src P sz tx y m us W → ∃ v W' δ', (Builtin.append_ #[t, tx] tr #[a, y]).run P W = .ok v W' ∧ Ex h δ δ' ∧ dec δ' r = some v ∧ Rel F δ' h' W'
/-- A new row beside the others. -/
theorem app_new (p : Pg P ty fu) {t tr e : TypeId} {ti : TypeInfo} (ht : InT ty t) (hu : P.underlying t = some (.slice e)) (hti : P.info? e = some ti) (h0 : 0 < ti.size) (h1 : ti.size ≤ 1024) {m lm : Nat} {x : RV} {cs old : List RV} {h : Hp} {k : K} (hlm : lm ≤ 1000000)
    (hx : ∀ F δ W a, Rel F δ h W → dec δ x = some a → ∃ base len cap olds, a = .slice base len cap ∧ cap < len + m ∧ lm = len + m ∧ decL δ old = some olds ∧ olds.length = len * ti.size ∧ (Builtin.firstCells ti.size len (.slice base len cap)).run P W.drew = .ok olds.toArray W.drew)
    (hk : (push (.row e ti.size lm (old ++ cs)) h fun j h' => k (.slc j 0 0 lm) h') = true) : ∃ r h', k r h' = true ∧ AppOK P t tr ti.size m x cs h r h' := by
  obtain ⟨h', hk, a1, a2, a3⟩ := push_inv hk
  refine ⟨_, h', hk, Grow.push a1 a3, fun F δ W a us tx y hR ha hus hs => ?_⟩
  obtain ⟨base, len, cap, olds, rfl, hg, rfl, hold, hol, hfc⟩ := hx F δ W a hR ha
  obtain ⟨cp, W', hr, hgr, ho⟩ := grow_ok p (tr := tr) ht hu hti h0 h1 hfc hol hs hg hlm
  have hf := (hR.fresh h.next (Nat.le_refl _)).1
  have hle : Pl.le δ (δ.put h.next W.heap.size cp) := Pl.le_put hf
  refine ⟨_, W', δ.put h.next W.heap.size cp, hr, Ex.put hf, ?_, ?_⟩
  · rw [slc_dec Pl.put_self (by have := owns_le ho; omega)]; simp
  · exact hR.push hgr (Nat.le_refl _) a1 a2 a3 (obR_own (hR.ok.new (Nat.le_refl _)) (decL_append (decL_mono hle _ _ hold) (decL_mono hle _ _ hus)) ho)
end
end Go.L.Ev
namespace Go.L.Ev
open Go Go.RowKit
variable [Ext]
set_option linter.unusedSimpArgs false
set_option linter.unusedVariables false
section
variable {P : Program} {ty : TyT} {fu : FuT}

theorem row_cells {F : Frm} {δ : Pl} {W : World} {b c : Nat} {e : TypeId} {sz n : Nat} {cs : List RV} (hO : ObR F δ b c W (.row e sz n cs)) : ∃ vs cur, decL δ cs = some vs ∧ vs.length = n * sz ∧ W.heap[b]? = some (.cells cur e (0, 0)) ∧ n ≤ c ∧ c ≤ maxLen ∧ cur.size = c * sz ∧ cur.toList.take (n * sz) = vs := by
  obtain ⟨hf, vs, hd, hl, ho⟩ := hO
  rcases ho with ⟨hv, _⟩ | ⟨g, cap, cur, hv, hg, hgg, hnc, hcap, hcs, htk⟩
  · cases hv
  · cases hv; exact ⟨vs, cur, hd, hl, hgg, hnc, hcap, hcs, htk⟩
theorem appTo_ok (p : Pg P ty fu) {t tr el : TypeId} {ti : TypeInfo} (ht : InT ty t) (hu : P.underlying t = some (.slice el)) (hti : P.info? el = some ti) (h0 : 0 < ti.size) (h1 : ti.size ≤ 1024) {m : Nat} {x : RV} {cs : List RV} {h : Hp} {k : K}
    (hm0 : m ≠ 0) (hm1 : m ≤ 100000) (hone : allOne cs = true) (hk : appTo x h el ti.size m cs k = true) : ∃ r h', k r h' = true ∧ AppOK P t tr ti.size m x cs h r h' := by
  cases x with
  | nils =>
    have hk : (push (.row el ti.size m cs) h fun j h' => k (.slc j 0 0 m) h') = true := hk
    refine app_new p ht hu hti h0 h1 (old := []) (lm := m) (by omega) (fun F δ W a hR ha => ?_) hk
    simp only [dec, Option.some.injEq] at ha
    exact ⟨none, 0, 0, [], ha.symm, by omega, by omega, decL_nil, by simp, run_firstCells_none W.drew ti.size 0 0 0⟩
  | asl i off len cap =>
    have hk : iff (Nat.ble cap len) (obK h i fun old => dropK old off fun old => takeK old (Nat.mul len ti.size) fun old => appK old cs fun all => natF (Nat.add len m) fun lm => iff (Nat.ble lm 1000000) (push (.row el ti.size lm all) h fun j h' => k (.slc j 0 0 lm) h') false) false = true := hk
    obtain ⟨e1, h2⟩ := iff_t hk
    obtain ⟨ocs, hcs, h3⟩ := obK_cs h2
    obtain ⟨e2, h4⟩ := dropK_inv h3
    obtain ⟨e3, h5⟩ := takeK_inv h4
    rw [appK_eq, natF_eq] at h5
    obtain ⟨e4, h6⟩ := iff_t h5
    have e1 : cap ≤ len := Nat.le_of_ble_eq_true e1
    have e3 : len * ti.size ≤ (ocs.drop off).length := e3
    refine app_new p ht hu hti h0 h1 (Nat.le_of_ble_eq_true e4) (fun F δ W a hR ha => ?_) h6
    simp only [dec, Option.map_eq_some_iff] at ha
    obtain ⟨⟨b, c⟩, hb, ha⟩ := ha
    obtain ⟨b', c', vs, hb', hvs, hr⟩ := hR.cs hcs
    rw [hb] at hb'; cases hb'
    have hl := decL_len hvs
    have hol : ((vs.drop off).take (len * ti.size)).length = len * ti.size := by simp at e3 ⊢; omega
    refine ⟨some ⟨b, off, none⟩, len, cap, _, ha.symm, by omega, rfl, decL_take _ (decL_drop off hvs), hol, firstCells_some hol fun j u hj => ?_⟩
    rw [Addr.add_mid]
    have := rangeAt_take (n := len * ti.size) (rangeAt_drop (n := off) hr) j u hj
    simpa using this
  | slc i off ce len =>
    have hk : (obRow h i fun e' s' n old => natF (Nat.add len m) fun lm => iff (Nat.ble (Nat.add ce lm) n)
      (spliceK old (Nat.add off (Nat.mul len ti.size)) cs fun all => setO i (.row e' s' n all) h fun h' => k (.slc i off ce lm) h')
      (iff (Nat.beq off 0) (iff (Nat.beq ce 0) (iff (Nat.beq e' el) (iff (Nat.beq s' ti.size) (iff (Nat.ble len n) (iff (Nat.ble lm 1000000) (takeK old (Nat.mul len ti.size) fun old => appK old cs fun all => setO i .no h fun h' => push (.row el ti.size lm all) h' fun j h'' => k (.slc j 0 0 lm) h'') false) false) false) false) false) false)) = true := hk
    obtain ⟨e', s', n, old, hat, h2⟩ := obRow_inv hk
    rw [natF_eq] at h2
    rcases iff_inv h2 with ⟨e1, h3⟩ | ⟨e1, h3⟩
    · obtain ⟨e2, h4⟩ := spliceK_inv h3
      obtain ⟨h', h5, a1, a2, a3⟩ := setO_inv h4
      have e1 : ce + (len + m) ≤ n := Nat.le_of_ble_eq_true e1
      refine ⟨_, h', h5, Grow.set (by rw [hat]; simp) a1 a3, fun F δ W a us tx y hR ha hus hs => ?_⟩
      obtain ⟨b, c, hb, hle, rfl⟩ := dec_slc ha
      obtain ⟨b', c', hb', hO⟩ := hR.get hat (by simp)
      rw [hb] at hb'; cases hb'
      obtain ⟨vs, cur, hd, hvl, hh, hnc, hcap, hcs, htk⟩ := row_cells hO
      have hol := decL_len hd
      have hul := decL_len hus
      have e2 : off + len * ti.size + cs.length ≤ old.length := e2
      obtain ⟨r1, r2, r3⟩ := hO.storeE (P := P) (mk := .row e' s' n) (.inr ⟨e', s', n, rfl, rfl⟩) e2 hus (decL_one hus hone)
      have hin : ∀ j, j < us.length → off + len * ti.size + j < cur.size := by
        intro j hj
        have : n * s' ≤ cur.size := by rw [hcs]; exact Nat.mul_le_mul_right _ hnc
        omega
      have hr := run_append_room_src (P := P) W t tx tr el ti hu hti b off len (c - ce) y m us hs (by omega)
        (fun j hj => by
          rw [cell_of_row W b _ cur e' (0, 0) hh]
          simp only [Array.getElem?_eq_getElem (hin j hj), Option.isSome_some])
        (fun j _ => by simp [World.frozen?, hh])
      refine ⟨_, _, δ, hr, Ex.refl _ _, slc_dec hb (show ce + (len + m) ≤ c by omega), ?_⟩
      exact hR.put (by rw [hat]; simp) hb r2 a1 a2 a3 r3
    · obtain ⟨c1, h4⟩ := iff_t h3
      obtain ⟨c2, h5⟩ := iff_t h4
      obtain ⟨c3, h6⟩ := iff_t h5
      obtain ⟨c4, h7⟩ := iff_t h6
      obtain ⟨c5, h8⟩ := iff_t h7
      obtain ⟨c6, h9⟩ := iff_t h8
      cases Nat.eq_of_beq_eq_true c1; cases Nat.eq_of_beq_eq_true c2; cases Nat.eq_of_beq_eq_true c3; cases Nat.eq_of_beq_eq_true c4
      have c5 : len ≤ n := Nat.le_of_ble_eq_true c5
      have c6 : len + m ≤ 1000000 := Nat.le_of_ble_eq_true c6
      obtain ⟨e2, h10⟩ := takeK_inv h9
      rw [appK_eq] at h10
      obtain ⟨h', h11, a1, a2, a3⟩ := setO_inv h10
      obtain ⟨h'', h12, b1, b2, b3⟩ := push_inv h11
      refine ⟨_, h'', h12, Grow.trans (Grow.set (by rw [hat]; simp) a1 a3) (Grow.push b1 b3), fun F δ W a us tx y hR ha hus hs => ?_⟩
      obtain ⟨b, c, hb, hle, rfl⟩ := dec_slc ha
      obtain ⟨b', c', hb', hO⟩ := hR.get hat (by simp)
      rw [hb] at hb'; cases hb'
      obtain ⟨vs, cur, hd, hvl, hh, hnc, hcap, hcs, htk⟩ := row_cells hO
      have hfree := hO.free (by simp)
      have hul := decL_len hus
      have hfn := (hR.fresh h.next (Nat.le_refl _)).1
      have hin : i ≠ h.next := fun e => by rw [e, hfn] at hb; cases hb
      have hnx : h''.next = h.next + 1 := by rw [b1, a1]
      have hatn : h''.at h.next = .row el ti.size (len + m) (old.take (len * ti.size) ++ cs) := by rw [← a1]; exact b2
      have hno : h''.at i = .no := by rw [b3 i (by rw [a1]; exact hin)]; exact a2
      have hold : ∀ j, j ≠ i → j ≠ h.next → h''.at j = h.at j := fun j h1 h2 => by rw [b3 j (by rw [a1]; exact h2), a3 j h1]
      have hpre : decL δ (old.take (len * ti.size)) = some (vs.take (len * ti.size)) := decL_take _ hd
      have hpl : (vs.take (len * ti.size)).length = len * ti.size := by
        have : len * ti.size ≤ n * ti.size := Nat.mul_le_mul_right _ c5
        simp; omega
      have hcur : vs.take (len * ti.size) = cur.toList.take (len * ti.size) := by
        have : len * ti.size ≤ n * ti.size := Nat.mul_le_mul_right _ c5
        rw [← htk, List.take_take, Nat.min_eq_left this]
      by_cases hroom : len + m ≤ c
      · have hml : us.length = m * ti.size := hs.newsLen
        have hfit : len * ti.size + us.length ≤ cur.size := by
          rw [hml, hcs, ← Nat.add_mul]; exact Nat.mul_le_mul_right _ hroom
        have hh2 : W.heap[b]? = some (.cells (cur.toList ++ []).toArray el (0, 0)) := by simpa using hh
        obtain ⟨r1, r2⟩ := store_core (P := P) (off := len * ti.size) hh2 (fun i _ hi => by simp at hi) (by simpa using hfit) hs.one
        have hr := run_append_room_src (P := P) W t tx tr el ti hu hti b 0 len (c - 0) y m us hs (by omega)
          (fun j hj => by
            rw [cell_of_row W b _ cur el (0, 0) hh]
            simp only [Array.getElem?_eq_getElem (show 0 + len * ti.size + j < cur.size by omega), Option.isSome_some])
          (fun j _ => by simp [World.frozen?, hh])
        rw [Nat.zero_add] at hr
        have hle2 : Pl.le δ (δ.put h.next b c) := Pl.le_put hfn
        refine ⟨_, _, δ.put h.next b c, hr, Ex.put hfn, by rw [a1]; exact slc_dec Pl.put_self (show 0 + (len + m) ≤ c by omega), ?_⟩
        refine hR.move (by rw [hat]; simp) hb (grown_setCs _ _ _) (.inl rfl) hnx hatn hno hold ?_
        refine obR_row (cur := _) hfree (decL_append (decL_mono hle2 _ _ hpre) (decL_mono hle2 _ _ hus)) (by rw [List.length_append, hpl, hml, Nat.add_mul]) r2 hroom hcap ?_ ?_
        · simp; omega
        · show List.take _ ((cur.toList.take (len * ti.size) ++ us ++ cur.toList.drop (len * ti.size + us.length)) ++ []) = _
          rw [List.append_nil, ← hcur, List.take_append_of_le_length (by rw [List.length_append, hpl, hml, Nat.add_mul]; exact Nat.le_refl _)]
          exact List.take_of_length_le (by rw [List.length_append, hpl, hml, Nat.add_mul]; exact Nat.le_refl _)
      · have hfc : (Builtin.firstCells ti.size len (.slice (some ⟨b, 0, none⟩) len (c - 0))).run P W.drew = .ok (vs.take (len * ti.size)).toArray W.drew := firstCells_some hpl fun j u hj => by
          rw [Addr.add_mid, cell_of_row W b _ cur el (0, 0) hh, Nat.zero_add, ← Array.getElem?_toList]
          rw [hcur, List.getElem?_take] at hj
          split at hj
          · exact hj
          · cases hj
        obtain ⟨cp, W', hr, hgr, ho⟩ := grow_ok p (tr := tr) ht hu hti h0 h1 hfc hpl hs (by omega) c6
        have hle2 : Pl.le δ (δ.put h.next W.heap.size cp) := Pl.le_put hfn
        refine ⟨_, W', δ.put h.next W.heap.size cp, hr, Ex.put hfn, ?_, ?_⟩
        · rw [a1]
          have h3 := owns_le ho
          rw [show Nat.add len m = len + m from rfl, slc_dec Pl.put_self (by omega)]; simp
        · refine hR.move (by rw [hat]; simp) hb ⟨hgr.os, hgr.tape, hgr.output, hgr.size, fun k hk _ => hgr.block k hk (by simp)⟩ (.inr (Nat.le_refl _)) hnx hatn hno hold ?_
          exact obR_own (hR.ok.new (Nat.le_refl _)) (decL_append (decL_mono hle2 _ _ hpre) (decL_mono hle2 _ _ hus)) ho
  | _ => exact absurd (show false = true from hk) (by decide)
end
end Go.L.Ev
namespace Go.L.Ev
open Go Go.RowKit
variable [Ext]
set_option linter.unusedSimpArgs false
set_option linter.unusedVariables false
section
variable {P : Program} {ty : TyT} {fu : FuT}

/-- The answer of a builtin: a value and a world. -/
def BAns (P : Program) (b : Builtin) (ats : Array TypeId) (tr : TypeId) (args : List RV) (h : Hp) (r : RV) (h' : Hp) : Prop :=
  Grow h h' ∧ ∀ F δ W vs cs, Rel F δ h W → decL δ args = some vs → ∃ v W' δ', (builtin b ats tr cs vs.toArray).run P W = .ok (.value v) W' ∧ Ex h δ δ' ∧ dec δ' r = some v ∧ Rel F δ' h' W'
theorem two {α : Type} {l : List α} {a b : α} (hl : l.length = 2) (h0 : l[0]? = some a) (h1 : l[1]? = some b) : l = [a, b] := by
  match l, hl with
  | [x, y], _ => simp at h0 h1; rw [h0, h1]
theorem bltApp_ok (p : Pg P ty fu) {ats : Array TypeId} {tr : TypeId} {args : List RV} {h : Hp} {k : K} (hk : bltApp ty ats args h k = true) : ∃ r h', k r h' = true ∧ BAns P .append ats tr args h r h' := by
  obtain ⟨t, ht, h1⟩ := nthK_inv hk
  obtain ⟨d, hu, h2⟩ := undK_inv p h1
  obtain ⟨el, rfl, h3⟩ := tdSlice_inv h2
  obtain ⟨ti, hti, h4⟩ := sizeK_inv p h3
  obtain ⟨e1, h5⟩ := iff_t h4
  obtain ⟨e2, h6⟩ := iff_t h5
  obtain ⟨e3, h7⟩ := iff_t h6
  rw [bAnd_eq, Bool.and_eq_true] at e3
  obtain ⟨x, hx, h8⟩ := nthK_inv h7
  obtain ⟨y, hy, h9⟩ := nthK_inv h8
  obtain ⟨tx, m, cs, htx, h10, hsrc⟩ := srcCells_ok p h9
  have e1 : 1 ≤ ti.size := Nat.le_of_ble_eq_true e1
  have e2 : ti.size ≤ 1024 := Nat.le_of_ble_eq_true e2
  have hargs : args = [x, y] := two (lenIs_inv e3.1) hx hy
  have hats : ats = #[t, tx] := by
    apply Array.toList_inj.1
    exact two (lenIs_inv e3.2) ht htx
  subst hargs hats
  have fin : ∀ r h', k r h' = true → Grow h h' → (∀ F δ W a c, Rel F δ h W → dec δ x = some a → dec δ y = some c → ∃ v W' δ', (Builtin.append_ #[t, tx] tr #[a, c]).run P W = .ok v W' ∧ Ex h δ δ' ∧ dec δ' r = some v ∧ Rel F δ' h' W') → ∃ r h', k r h' = true ∧ BAns P .append #[t, tx] tr [x, y] h r h' := by
    intro r h' hkr hgr hr
    refine ⟨r, h', hkr, hgr, fun F δ W vs css hR hvs => ?_⟩
    obtain ⟨a, l1, ha, hl1, rfl⟩ := decL_cons_inv hvs
    obtain ⟨c, l2, hc, hl2, rfl⟩ := decL_cons_inv hl1
    rw [decL_nil] at hl2; cases hl2
    obtain ⟨v, W', δ', r1, r2, r3, r4⟩ := hr F δ W a c hR ha hc
    exact ⟨v, W', δ', by simp only [builtin, Sem.run_bind, r1, Result.andThen_ok, Sem.run_pure], r2, r3, r4⟩
  rcases iff_inv h10 with ⟨e4, h11⟩ | ⟨e4, h11⟩
  · cases Nat.eq_of_beq_eq_true e4
    obtain ⟨e5, h12⟩ := iff_t h11
    refine fin x h h12 (Grow.refl _) fun F δ W a c hR ha hc => ?_
    obtain ⟨us, hus, hul, hs⟩ := hsrc F δ W c hR.toRelA hc
    have hun : us = [] := List.eq_nil_of_length_eq_zero (by rw [hul]; simp)
    subst hun
    have hs := hs (by simp)
    have run : ∀ base len cap, a = .slice base len cap → len ≤ cap → ∃ v W' δ', (Builtin.append_ #[t, tx] tr #[a, c]).run P W = .ok v W' ∧ Ex h δ δ' ∧ dec δ' x = some v ∧ Rel F δ' h W' := by
      rintro base len cap rfl hle
      exact ⟨_, W, δ, run_append_nothing W t tx tr el ti hu hti base len cap hle c hs, Ex.refl _ _, ha, hR⟩
    unfold capOk at e5
    rw [bOr_eq, bOr_eq] at e5
    cases x with
    | slc i off ce len =>
      obtain ⟨b, cc, hb, hle, rfl⟩ := dec_slc ha
      exact run _ _ _ rfl (by omega)
    | nils =>
      simp only [dec, Option.some.injEq] at ha
      exact run none 0 0 ha.symm (Nat.le_refl _)
    | asl i off len cap =>
      have e5 : Nat.ble len cap = true := by simpa [isCon, conN, iff, rvAsl] using e5
      simp only [dec, Option.map_eq_some_iff] at ha
      obtain ⟨⟨b, cc⟩, hb, ha⟩ := ha
      exact run _ _ _ ha.symm (Nat.le_of_ble_eq_true e5)
    | _ => exact absurd (show false = true from e5) (by decide)
  · obtain ⟨e5, h12⟩ := iff_t h11
    obtain ⟨e6, h13⟩ := iff_t h12
    have hm0 : m ≠ 0 := fun e => by rw [e] at e4; cases e4
    obtain ⟨r, h', hkr, hA⟩ := appTo_ok p (t := t) (tr := tr) (undK_mem h1) hu hti e1 e2 hm0 (Nat.le_of_ble_eq_true e6) e5 h13
    refine fin r h' hkr hA.1 fun F δ W a c hR ha hc => ?_
    obtain ⟨us, hus, hul, hs⟩ := hsrc F δ W c hR.toRelA hc
    exact hA.2 F δ W a us tx c hR ha hus (hs (decL_one hus e5))
theorem bltMin_ok {ats : Array TypeId} {tr : TypeId} {args : List RV} {h : Hp} {k : K} (hk : bltMin ty ats args h k = true) : ∃ r h', k r h' = true ∧ BAns P .min ats tr args h r h' := by
  obtain ⟨hl, h0⟩ := iff_t hk
  obtain ⟨x, hx, h1⟩ := nthK_inv h0
  obtain ⟨y, hy, h2⟩ := nthK_inv h1
  obtain ⟨j, a, rfl, h3⟩ := rvInt_inv h2
  obtain ⟨l, b, rfl, h4⟩ := rvInt_inv h3
  obtain ⟨e1, h5⟩ := iff_t h4
  cases ikEq_inv e1
  have hargs := two (lenIs_inv hl) hx hy
  subst hargs
  have fin : ∀ z, k (.int j z) h = true → z = (if b < a then b else a) → ∃ r h', k r h' = true ∧ BAns P .min ats tr [.int j a, .int j b] h r h' := by
    intro z hz hzz
    refine ⟨_, h, hz, Grow.refl _, fun F δ W vs cs hR hvs => ?_⟩
    have : vs = [.int j a, .int j b] := by simpa [decL, dec] using hvs.symm
    subst this
    exact ⟨.int j z, W, δ, by simp [builtin, Builtin.min_, Builtin.min2, hzz], Ex.refl _ _, by simp only [dec], hR⟩
  rcases iff_inv h5 with ⟨e2, h6⟩ | ⟨e2, h6⟩
  · rw [iLt_eq] at e2
    exact fin b h6 (by rw [if_pos (by simpa using e2)])
  · rw [iLt_eq] at e2
    exact fin a h6 (by rw [if_neg (by simpa using e2)])
theorem bltMax_ok {ats : Array TypeId} {tr : TypeId} {args : List RV} {h : Hp} {k : K} (hk : bltMax ty ats args h k = true) : ∃ r h', k r h' = true ∧ BAns P .max ats tr args h r h' := by
  obtain ⟨hl, h0⟩ := iff_t hk
  obtain ⟨x, hx, h1⟩ := nthK_inv h0
  obtain ⟨y, hy, h2⟩ := nthK_inv h1
  obtain ⟨j, a, rfl, h3⟩ := rvInt_inv h2
  obtain ⟨l, b, rfl, h4⟩ := rvInt_inv h3
  obtain ⟨e1, h5⟩ := iff_t h4
  cases ikEq_inv e1
  have hargs := two (lenIs_inv hl) hx hy
  subst hargs
  have fin : ∀ z, k (.int j z) h = true → z = (if a < b then b else a) → ∃ r h', k r h' = true ∧ BAns P .max ats tr [.int j a, .int j b] h r h' := by
    intro z hz hzz
    refine ⟨_, h, hz, Grow.refl _, fun F δ W vs cs hR hvs => ?_⟩
    have : vs = [.int j a, .int j b] := by simpa [decL, dec] using hvs.symm
    subst this
    exact ⟨.int j z, W, δ, by simp [builtin, Builtin.max_, Builtin.max2, hzz], Ex.refl _ _, by simp only [dec], hR⟩
  rcases iff_inv h5 with ⟨e2, h6⟩ | ⟨e2, h6⟩
  · rw [iLt_eq] at e2
    exact fin b h6 (by rw [if_pos (by simpa using e2)])
  · rw [iLt_eq] at e2
    exact fin a h6 (by rw [if_neg (by simpa using e2)])
end
end Go.L.Ev
namespace Go.L.Ev
open Go Go.RowKit
variable [Ext]
set_option linter.unusedSimpArgs false
set_option linter.unusedVariables false
section
variable {P : Program} {ty : TyT} {fu : FuT}

theorem kSem_look {c : Cx} {w : World} {s : Sem Next} {v : Value} {k : Value → World → Prop} (h : ∀ n, s.run c.P (w.drewN n) = .ok (.value v) (w.drewN n)) (hk : k v w) : kSem c w s k := by
  obtain ⟨P, X, q⟩ := c
  cases q with
  | false =>
    show kNext _ _ _
    have := h 0
    rw [drewN_zero'] at this
    rw [this]; exact hk
  | true => exact ⟨v, fun n => by rw [h]; exact ⟨rfl, rfl⟩, hk⟩
theorem kind6 {d : TypeDesc} (h : Nat.beq (kindD d) 6 = true) : ∃ n e, d = .array n e := by cases d <;> first | exact ⟨_, _, rfl⟩ | exact absurd (show false = true from h) (by decide)
theorem lenR_ok {t : TypeId} {td : TypeDesc} (hu : P.underlying t = some td) {v : RV} {h : Hp} {κ : Nat → Bool} (hk : lenR (kindD td) v h κ = true) : ∃ n, κ n = true ∧ ∀ F δ W a tr (rest : List TypeId) (more : List Value), RelA F δ h W → dec δ v = some a →
    (Builtin.len_ (t :: rest).toArray tr (a :: more).toArray).run P W = .ok (.int .i64 n) W := by
  have row : ∀ e base n c tr (rest : List TypeId) (more : List Value) (W : World), td = .slice e → (Builtin.len_ (t :: rest).toArray tr (Value.slice base n c :: more).toArray).run P W = .ok (.int .i64 n) W := by
    rintro e base n c tr rest more W rfl
    simp [Builtin.len_, run_underlying hu, goInt]
  cases v with
  | str m i =>
    obtain ⟨e1, h1⟩ := iff_t (b := Nat.beq (kindD td) 3) hk
    cases kind3 e1
    obtain ⟨hw, h1⟩ := iff_t h1
    refine ⟨_, h1, fun F δ W a tr rest more hR ha => ?_⟩
    rw [dec_str (strB_w hw) ha]
    simp [Builtin.len_, run_underlying hu, goInt, strOf_size]
  | slc i off ce len =>
    obtain ⟨e1, h1⟩ := iff_t (b := Nat.beq (kindD td) 5) hk
    obtain ⟨e, he⟩ := kind5 e1
    refine ⟨_, h1, fun F δ W a tr rest more hR ha => ?_⟩
    obtain ⟨b, c, _, _, rfl⟩ := dec_slc ha
    exact row e _ _ _ tr rest more W he
  | asl i off len cap =>
    obtain ⟨e1, h1⟩ := iff_t (b := Nat.beq (kindD td) 5) hk
    obtain ⟨e, he⟩ := kind5 e1
    refine ⟨_, h1, fun F δ W a tr rest more hR ha => ?_⟩
    simp only [dec] at ha
    obtain ⟨q, rfl⟩ := dec_opt ha
    exact row e _ _ _ tr rest more W he
  | nils =>
    obtain ⟨e1, h1⟩ := iff_t (b := Nat.beq (kindD td) 5) hk
    obtain ⟨e, he⟩ := kind5 e1
    refine ⟨_, h1, fun F δ W a tr rest more hR ha => ?_⟩
    simp only [dec, Option.some.injEq] at ha
    subst ha
    exact row e _ _ _ tr rest more W he
  | emp i off ce dl s =>
    obtain ⟨e1, h1⟩ := iff_t (b := Nat.beq (kindD td) 5) hk
    obtain ⟨e, he⟩ := kind5 e1
    refine ⟨_, h1, fun F δ W a tr rest more hR ha => ?_⟩
    obtain ⟨ad, cp, rfl⟩ := dec_emp ha
    exact row e _ _ _ tr rest more W he
  | nilm =>
    obtain ⟨e1, h1⟩ := iff_t (b := Nat.beq (kindD td) 7) hk
    obtain ⟨kt, et, rfl⟩ := kind7 e1
    refine ⟨_, h1, fun F δ W a tr rest more hR ha => ?_⟩
    simp only [dec, Option.some.injEq] at ha
    subst ha
    simp [Builtin.len_, run_underlying hu, goInt]
  | map i =>
    obtain ⟨e1, h1⟩ := iff_t (b := Nat.beq (kindD td) 7) hk
    obtain ⟨kt, et, rfl⟩ := kind7 e1
    obtain ⟨cl, es, hat, h2⟩ := obMap_inv h1
    rw [lenK_eq] at h2
    refine ⟨_, h2, fun F δ W a tr rest more hR ha => ?_⟩
    simp only [dec, Option.map_eq_some_iff] at ha
    obtain ⟨⟨b, c⟩, hb, rfl⟩ := ha
    obtain ⟨b', c', hb', _, l, hl, hh⟩ := hR.get hat (by simp)
    rw [hb] at hb'; cases hb'
    have hlen : l.length = es.length := by
      clear h2 hat hh
      induction es generalizing l with
      | nil => simp [decE] at hl; subst hl; rfl
      | cons x es ih =>
        obtain ⟨k1, v1, j1⟩ := x
        simp only [decE] at hl
        split at hl
        · cases hl
          rename_i hz
          simp [ih _ hz]
        · cases hl
    simp [Builtin.len_, run_underlying hu, goInt, getObj, Sem.run, hh, hlen]
  | _ => exact absurd (show false = true from hk) (by decide)
theorem bltLen_ok (p : Pg P ty fu) {ats : Array TypeId} {tr : TypeId} {args : List RV} {h : Hp} {k : K} (hk : bltLen ty ats args h k = true) : ∃ r, k r h = true ∧ ∀ F δ W vs cs, RelA F δ h W → decL δ args = some vs →
    ∃ v, dec δ r = some v ∧ (builtin .len ats tr cs vs.toArray).run P W = .ok (.value v) W := by
  obtain ⟨t, ht, h1⟩ := nthK_inv hk
  obtain ⟨d, hu, h2⟩ := undK_inv p h1
  obtain ⟨x, hx, h3⟩ := nthK_inv h2
  obtain ⟨n, h4, hn⟩ := lenR_ok (P := P) hu h3
  refine ⟨_, h4, fun F δ W vs cs hR hvs => ⟨.int .i64 n, by simp only [dec]; rfl, ?_⟩⟩
  cases args with
  | nil => simp at hx
  | cons y args =>
    simp at hx
    subst hx
    obtain ⟨a, l, ha, _, rfl⟩ := decL_cons_inv hvs
    have hats : ∃ rest, ats = (t :: rest).toArray := by
      cases hq : ats.toList with
      | nil => rw [hq] at ht; simp at ht
      | cons u us =>
        rw [hq] at ht
        simp at ht
        subst ht
        exact ⟨us, by apply Array.toList_inj.1; simpa using hq⟩
    obtain ⟨rest, rfl⟩ := hats
    simp only [builtin, Sem.run_bind, hn F δ W a tr rest l hR ha, Result.andThen_ok, Sem.run_pure]
end
end Go.L.Ev
namespace Go.L.Ev
open Go Go.RowKit
variable [Ext]
set_option linter.unusedSimpArgs false
set_option linter.unusedVariables false
section
variable {P : Program} {ty : TyT} {fu : FuT}

theorem bytesK_inv : ∀ (l : List RV) {κ : Nat → Bool}, bytesK l κ = true → ∃ m, κ m = true ∧ (l = [] → m = 0) ∧ ∃ bs : List Nat, (∀ b ∈ bs, b < 256) ∧ bytesOf l.length m = bs.map UInt8.ofNat ∧ ∀ δ, decL δ l = some (bs.map fun b : Nat => Value.int .u8 (b : Int))
  | [], κ, h => ⟨0, h, fun _ => rfl, [], by simp, rfl, fun δ => decL_nil⟩
  | a :: l, κ, h => by
    have h : (rvInt a fun k n => iff (ikEq k .u8) (iNat n fun n => iff (Nat.blt n 256) (bytesK l fun r => natF (Nat.add n (Nat.mul 256 r)) κ) false) false) = true := h
    obtain ⟨q, z, rfl, h1⟩ := rvInt_inv h
    obtain ⟨e1, h2⟩ := iff_t h1
    cases ikEq_inv e1
    obtain ⟨n, rfl, h3⟩ := iNat_inv h2
    obtain ⟨e2, h4⟩ := iff_t h3
    obtain ⟨r, h5, _, bs, b1, b2, b3⟩ := bytesK_inv l h4
    rw [natF_eq] at h5
    have e2 : n < 256 := by simpa [Nat.blt_eq] using e2
    refine ⟨_, h5, fun e => (by cases e), n :: bs, fun b hb => ?_, ?_, fun δ => decL_cons (by simp only [dec]) (b3 δ)⟩
    · rcases List.mem_cons.1 hb with rfl | hb
      · exact e2
      · exact b1 b hb
    · show UInt8.ofNat ((n + 256 * r) % 256) :: bytesOf l.length ((n + 256 * r) / 256) = _
      rw [show (n + 256 * r) % 256 = n by omega, show (n + 256 * r) / 256 = r by omega, b2]
      rfl
theorem oTA_ok (p : Pg P ty fu) {o : Oper} {x : Operand} {xt at_ : TypeId} {ok : Bool} (ho : o.op = .typeAssert x xt at_ ok) {call e h k kd kp} (hk : oTA x at_ ok ty call e h k kd kp = true) : ∃ r, k r h = true ∧ QAns P o e h r := by
  obtain ⟨v, hk1, hv⟩ := opd_o hk
  obtain ⟨d, hu, hk2⟩ := undK_inv p hk1
  obtain ⟨hd, hk3⟩ := iff_f hk2
  have hm : x ∈ o.op.operands := by simp [ho, Op.operands]
  have fin : ∀ r, k r h = true → (∀ δ a, dec δ v = some a → ∃ y, dec δ r = some y ∧ ∀ w, (Instr.typeAssert a xt at_ ok).run P w = .ok y w) → ∃ r, k r h = true ∧ QAns P o e h r := by
    intro r hkr hr
    refine ⟨r, hkr, fun F δ W E hR hE => ?_⟩
    obtain ⟨y, hy, hrun⟩ := hr δ _ (hv δ E _ hE hm)
    refine ⟨y, hy, fun q => Yields.of fun rd X kn kb kdd hkb => ?_⟩
    unfold vcOpV
    rw [ho]
    exact ⟨kVal_pure hrun hkb⟩
  have hni : ∀ ms, d ≠ .interface ms := fun ms e => by rw [e] at hd; cases hd
  have zero : (zeroK ty at_ fun z => k (.tup [z, .bool false]) h) = true → ok = true → (∀ δ a, dec δ v = some a → a = .nilIface ∨ ∃ t w, a = .iface t w ∧ t ≠ at_) → ∃ r, k r h = true ∧ QAns P o e h r := by
    intro h1 hok h2
    obtain ⟨i, z, r, hi, hz, h3, hr⟩ := zeroK_inv p h1
    refine fin _ h3 fun δ a ha => ⟨.tuple #[z, .bool false], by simp [dec, decL, hr], fun w => ?_⟩
    subst hok
    rcases h2 δ a ha with rfl | ⟨t, u, rfl, hne⟩
    · cases d <;> first | exact absurd rfl (hni _) | simp [Instr.typeAssert, run_underlying hu, zeroValue_run hi hz]
    · cases d <;> first | exact absurd rfl (hni _) | simp [Instr.typeAssert, run_underlying hu, zeroValue_run hi hz, hne]
  cases v with
  | ifc t u =>
    have hk3 : iff (Nat.beq t at_) (iff ok (k (.tup [u, .bool true]) h) (k u h)) (iff ok (zeroK ty at_ fun z => k (.tup [z, .bool false]) h) false) = true := hk3
    rcases iff_inv hk3 with ⟨e1, h1⟩ | ⟨e1, h1⟩
    · cases Nat.eq_of_beq_eq_true e1
      rcases iff_inv h1 with ⟨rfl, h2⟩ | ⟨rfl, h2⟩
      · refine fin _ h2 fun δ a ha => ?_
        obtain ⟨y, hy, rfl⟩ := dec_ifc ha
        refine ⟨.tuple #[y, .bool true], by simp [dec, decL, hy], fun w => ?_⟩
        cases d <;> first | exact absurd rfl (hni _) | simp [Instr.typeAssert, run_underlying hu]
      · refine fin _ h2 fun δ a ha => ?_
        obtain ⟨y, hy, rfl⟩ := dec_ifc ha
        refine ⟨y, hy, fun w => ?_⟩
        cases d <;> first | exact absurd rfl (hni _) | simp [Instr.typeAssert, run_underlying hu]
    · obtain ⟨e2, h2⟩ := iff_t h1
      refine zero h2 e2 fun δ a ha => ?_
      obtain ⟨y, hy, rfl⟩ := dec_ifc ha
      exact .inr ⟨t, y, rfl, fun e => by rw [e] at e1; simp at e1⟩
  | nili =>
    have hk3 : iff ok (zeroK ty at_ fun z => k (.tup [z, .bool false]) h) false = true := hk3
    obtain ⟨e2, h2⟩ := iff_t hk3
    refine zero h2 e2 fun δ a ha => .inl ?_
    simp only [dec, Option.some.injEq] at ha
    exact ha.symm
  | _ => exact absurd (show false = true from hk3) (by decide)
end
end Go.L.Ev
namespace Go.L.Ev
open Go Go.RowKit
variable [Ext]
set_option linter.unusedSimpArgs false
set_option linter.unusedVariables false
section
variable {P : Program} {ty : TyT} {fu : FuT}

theorem oConv_int (p : Pg P ty fu) {o : Oper} {s d : TypeId} {x : Operand} {kk : IntKind} (ho : o.op = .convert s d x) (hd : P.underlying d = some (.int kk)) {call e h k kd kp} (hk : oConv s d x ty call e h k kd kp = true) : ∃ r, k r h = true ∧ QAns P o e h r := by
  obtain ⟨v, hk1, hv⟩ := opd_o hk
  obtain ⟨sd, hs, hk2⟩ := undK_inv p hk1
  obtain ⟨dd, hdd, hk3⟩ := undK_inv p hk2
  rw [hd] at hdd
  cases hdd
  have hk3 : (rvInt v fun _ n => wrapK kk n fun r => k r h) = true := hk3
  obtain ⟨q, n, rfl, hk4⟩ := rvInt_inv hk3
  have hk5 := wrapK_inv hk4
  have hm : x ∈ o.op.operands := by simp [ho, Op.operands]
  refine ⟨_, hk5, fun F δ W E hR hE => ⟨.int kk (kk.wrap n), by simp only [dec], fun qq => Yields.of fun rd X kn kb kdd hkb => ?_⟩⟩
  unfold vcOpV
  rw [ho]
  show kConv _ W s d (ev E x) _
  rw [dec_int (hv δ E _ hE hm)]
  exact kConv_int (by rw [hs]; rfl) hd hkb
/-- A panic of one's own. -/
theorem oPanic_ok {o : Oper} {x : Operand} (ho : o.op = .panic x) {call e h k kd kp} (hk : oPanic x ty call e h k kd kp = true) : ∃ r, kp r h = true ∧ ∀ F δ W E, Rel F δ h W → EnvO δ e E o.op.operands →
    ∀ rd X kn kb kdd, (∀ y, dec δ r = some y → X [{ v := y, recovered := false }] W) → vcOpV P rd false X o kn E W kb kdd := by
  obtain ⟨v, hk1, hv⟩ := opd_o hk
  obtain ⟨t, w, rfl, hk2⟩ := rvIfc_inv hk1
  have hm : x ∈ o.op.operands := by simp [ho, Op.operands]
  refine ⟨_, hk2, fun F δ W E hR hE rd X kn kb kdd hX => ?_⟩
  have ha := hv δ E _ hE hm
  obtain ⟨y, hy, he⟩ := dec_ifc ha
  unfold vcOpV
  rw [ho]
  show kPanic _ W (ev E x)
  rw [he]
  exact kPanic_i (hX _ (by rw [← he]; exact ha))
/-- A call of a function whose answer is known. -/
theorem call_eff {o : Oper} {f : FuncId} {xs : Array Operand} {ats : Array TypeId} (ho : o.op = .call { callee := .value (.func f), args := xs, argTypes := ats }) {e : VE} {h h' : Hp} {r : RV}
    (hc : ∀ args w, (callFunc f args).run P w = .ok (.enter f args) w)
    (hg : Grow h h') (H : ∀ F δ W E, Rel F δ h W → EnvO δ e E o.op.operands → Calls P f (xs.map (ev E)) W fun en W' => ∃ δ' y, Ex h δ δ' ∧ dec δ' r = some y ∧ en = .returned y ∧ Rel F δ' h' W') : EAns P o e h r h' := by
  refine ⟨hg, fun F δ W E hR hE rd X kn kb kdd hkn hkb => ?_⟩
  unfold vcOpV
  rw [ho]
  refine kCall_of (hc _ _) (H F δ W E hR hE) ?_
  rintro en W' ⟨δ', y, h1, h2, rfl, h3⟩
  exact hkb δ' y W' none h1 h2 h3 (by simp)
end
end Go.L.Ev
namespace Go.L.Ev
open Go Go.RowKit
variable [Ext]
set_option linter.unusedSimpArgs false
set_option linter.unusedVariables false
section
variable {P : Program} {ty : TyT} {fu : FuT}

theorem range_zero (z : Array Value) {sz : Nat} (h : z.size = sz) (h0 : 0 < sz) : ∀ n : Nat, ((Array.range (n * sz)).map fun i => z[i % z.size]!) = ((List.replicate n z.toList).flatten).toArray
  | 0 => by apply Array.toList_inj.1; simp [Array.toList_range]
  | n + 1 => by
    have ih := range_zero z h h0 n
    have ih' := congrArg Array.toList ih
    apply Array.toList_inj.1
    simp only [Array.toList_map, Array.toList_range] at ih' ⊢
    rw [Nat.succ_mul, List.range_add, List.map_append, ih', List.replicate_succ', List.flatten_append]
    congr 1
    rw [List.map_map]
    apply List.ext_getElem
    · simp [h]
    · intro j h1 h2
      have hj : j < z.size := by rw [h]; simpa using h1
      simp [h, Nat.mod_eq_of_lt (h ▸ hj), getElem!_pos z j hj]
theorem decL_flat {δ : Pl} {cs : List RV} {vs : List Value} (h : decL δ cs = some vs) : ∀ n, decL δ (List.replicate n cs).flatten = some (List.replicate n vs).flatten
  | 0 => decL_nil
  | n + 1 => by
    rw [List.replicate_succ, List.replicate_succ, List.flatten_cons, List.flatten_cons]
    exact decL_append h (decL_flat h n)
theorem isNils_t {v : RV} (h : isNils v = true) : v = .nils := by cases v <;> first | rfl | exact absurd (show false = true from h) (by decide)
theorem bltClr_ok (p : Pg P ty fu) {ats : Array TypeId} {tr : TypeId} {args : List RV} {h : Hp} {k : K} (hk : bltClr ty ats args h k = true) : ∃ r h', k r h' = true ∧ BAns P .clear ats tr args h r h' := by
  obtain ⟨t, ht, h1⟩ := nthK_inv hk
  obtain ⟨d, hu, h2⟩ := undK_inv p h1
  obtain ⟨el, rfl, h3⟩ := tdSlice_inv h2
  obtain ⟨ti, hti, h4⟩ := sizeK_inv p h3
  obtain ⟨v, hv, h5⟩ := nthK_inv h4
  have fin : ∀ r h', k r h' = true → Grow h h' → (∀ F δ W a, Rel F δ h W → dec δ v = some a → ∃ W', (∀ (ats' : Array TypeId) (vs : Array Value), ats'[0]? = some t → vs[0]? = some a → (Builtin.clear_ ats' tr vs).run P W = .ok (.tuple #[]) W') ∧ dec δ r = some (.tuple #[]) ∧ Rel F δ h' W') → ∃ r h', k r h' = true ∧ BAns P .clear ats tr args h r h' := by
    intro r h' hkr hgr hr
    refine ⟨r, h', hkr, hgr, fun F δ W vs cs hR hvs => ?_⟩
    obtain ⟨a, ha, hda⟩ := decL_get hvs hv
    obtain ⟨W', r1, r2, r3⟩ := hr F δ W a hR hda
    refine ⟨.tuple #[], W', δ, ?_, Ex.refl _ _, r2, r3⟩
    simp only [builtin, Sem.run_bind, r1 ats vs.toArray (by simpa using ht) (by simpa using ha), Result.andThen_ok, Sem.run_pure]
  have hud : ∀ δ, dec δ undefR = some (.tuple #[]) := fun δ => by simp [dec, decL]
  rcases iff_inv h5 with ⟨e1, h6⟩ | ⟨e1, h6⟩
  · cases isNils_t e1
    refine fin _ h h6 (Grow.refl _) fun F δ W a hR ha => ⟨W, ?_, hud δ, hR⟩
    simp only [dec, Option.some.injEq] at ha
    subst ha
    intro ats' vs h1 h2
    simp [Builtin.clear_, h1, h2, run_underlying hu]
  · have key : ∀ i off len, (zeroK ty el fun z => repK (cellsR z) len fun cs => iff (allOne cs) (obM h i fun old mk => spliceK old off cs fun all => setO i (mk all) h fun h' => k undefR h') false) = true →
        (∀ δ a, dec δ v = some a → ∃ b c cp, δ i = some (b, c) ∧ a = .slice (some ⟨b, off, none⟩) len cp) → ∃ r h', k r h' = true ∧ BAns P .clear ats tr args h r h' := by
      intro i off len g1 g2
      obtain ⟨zi, z, zr, hzi, hz, g3, hzr⟩ := zeroK_inv p g1
      rw [repK_eq] at g3
      obtain ⟨g0, g3⟩ := iff_t g3
      obtain ⟨cs, mk, hmk, g4⟩ := obM_mk g3
      obtain ⟨hle, g5⟩ := spliceK_inv g4
      obtain ⟨h', g6, a1, a2, a3⟩ := setO_inv g5
      refine fin _ h' g6 (Grow.set hmk.ne a1 a3) fun F δ W a hR ha => ?_
      obtain ⟨b, c, cp, hb, rfl⟩ := g2 δ a ha
      obtain ⟨b', c', hb', hO⟩ := hR.own i hmk.ne
      rw [hb] at hb'; cases hb'
      have hcz := decL_flat (dec_cells (hzr δ)) len
      have hone : ∀ u ∈ (List.replicate len z.cells.toList).flatten, u.oneCell' = true := decL_one hcz g0
      obtain ⟨r1, r2, r3⟩ := hO.storeE (P := P) hmk hle hcz hone
      refine ⟨_, ?_, hud δ, hR.put hmk.ne hb r2 a1 a2 a3 r3⟩
      intro ats' vs' q1 q2
      cases len with
      | zero => simp [Builtin.clear_, q1, q2, run_underlying hu]; rfl
      | succ n =>
        have hzc : (Builtin.zeroCells z.cells (n + 1)).toList = (List.replicate (n + 1) z.cells.toList).flatten := by
          unfold Builtin.zeroCells
          rcases Nat.eq_zero_or_pos z.cells.size with h0 | h0
          · have : z.cells.toList = [] := List.eq_nil_of_length_eq_zero (by simpa using h0)
            simp [h0, this, Array.toList_range]
          · rw [range_zero z.cells rfl h0]
        simp [Builtin.clear_, q1, q2, run_underlying hu, zeroValue_run hzi hz, hzc, r1]
    cases v with
    | slc i off ce len =>
      refine key i off len h6 fun δ a ha => ?_
      obtain ⟨b, c, hb, _, ha⟩ := dec_slc ha
      exact ⟨b, c, _, hb, ha⟩
    | asl i off len cap =>
      refine key i off len h6 fun δ a ha => ?_
      simp only [dec, Option.map_eq_some_iff] at ha
      obtain ⟨⟨b, c⟩, hb, ha⟩ := ha
      exact ⟨b, c, _, hb, ha.symm⟩
    | _ => exact absurd (show false = true from h6) (by decide)
end
end Go.L.Ev
namespace Go.L.Ev
open Go Go.RowKit
variable [Ext]
set_option linter.unusedSimpArgs false
set_option linter.unusedVariables false
section
variable {P : Program} {ty : TyT} {fu : FuT}

theorem makeSlice_run {t e : TypeId} {ti : TypeInfo} (hu : P.underlying t = some (.slice e)) (hti : P.info? e = some ti) {z : Value} (hz : ti.zero = some z) (hzs : z.cells.size = ti.size) (h0 : 0 < ti.size) (hb : ti.bytes ≤ 65536) {j q : IntKind} {n c : Nat} (hnc : n ≤ c) (hc : c ≤ 1000000) (w : World) :
    (Instr.makeSlice t (.int j n) (.int q c)).run P w = .ok (.slice (some ⟨w.heap.size, 0, none⟩) n c) (w.alloc (.cells ((List.replicate c z.cells.toList).flatten).toArray e)) := by
  have hcb : c * ti.bytes ≤ 1000000 * 65536 := Nat.mul_le_mul hc hb
  have hnb : n * ti.bytes ≤ 1000000 * 65536 := Nat.mul_le_mul (by omega) hb
  have hwn : IntKind.i64.wrap (n : Int) = n := by rw [IntKind.wrap_i64]; omega
  have hwc : IntKind.i64.wrap (c : Int) = c := by rw [IntKind.wrap_i64]; omega
  have hroom : ¬ (c * ti.bytes > roomBytes) := by unfold roomBytes; omega
  have hbb : ¬ (281474976710656 < (ti.bytes : Int) * c) := by
    have : (ti.bytes : Int) * c = ((c * ti.bytes : Nat) : Int) := by rw [Nat.mul_comm]; simp
    omega
  have ha : ∀ (j : IntKind) (n : Nat) w, (asIntOf (.int j (n : Int))).run P w = .ok (j, (n : Int)) w := fun j n w => by simp [asIntOf]
  have hn0 : ¬ ((n : Int) < 0) := by omega
  have hc0 : ¬ ((c : Int) < 0) := by omega
  have hle : ¬ ((c : Int) < (n : Int)) := by omega
  have hzr : (zeroValue e).run P w = .ok z w := zeroValue_run hti hz w
  rw [← range_zero z.cells hzs h0]
  rcases Nat.eq_zero_or_pos c with rfl | hc1
  · have : n = 0 := by omega
    subst this
    have hw0 : IntKind.i64.wrap 0 = 0 := by decide
    have ha0 : ∀ (j : IntKind) w, (asIntOf (.int j 0)).run P w = .ok (j, 0) w := fun j w => by simp [asIntOf]
    simp [Instr.makeSlice, asInt, run_underlying hu, ha0, sizeOf, typeInfo, hti, newRow, askRoom, hw0]
    congr 2
    apply Array.ext
    · simp
    · intro i h1 h2; simp at h1
  · have hne : ¬ (c * ti.size = 0) := by have := Nat.mul_pos hc1 h0; omega
    have hcz : ¬ (c = 0) := by omega
    have hsz : ¬ (ti.size = 0) := by omega
    simp [Instr.makeSlice, asInt, run_underlying hu, ha, sizeOf, typeInfo, hti, newRow, askRoom, hroom, hbb, hzr, hne, hn0, hc0, hle, hwn, hwc, hcz, hsz, Int.toNat_natCast]
theorem oMkSl_ok (p : Pg P ty fu) {o : Oper} {t : TypeId} {l c : Operand} (ho : o.op = .makeSlice t l c) {call e h k kd kp} (hk : oMkSl t l c ty call e h k kd kp = true) :
    ∃ ob n h', k (.slc h.next 0 0 n) h' = true ∧ h'.next = h.next + 1 ∧ h'.at h.next = ob ∧ (∀ j, j ≠ h.next → h'.at j = h.at j) ∧ AAns P o e ob (fun N => .slc N 0 0 n) := by
  obtain ⟨lv, k1, hl⟩ := opd_o hk
  obtain ⟨cv, k2, hc⟩ := opd_o k1
  obtain ⟨jl, ln, rfl, k3⟩ := rvInt_inv k2
  obtain ⟨jc, cn, rfl, k4⟩ := rvInt_inv k3
  obtain ⟨n, rfl, k5⟩ := iNat_inv k4
  obtain ⟨c', rfl, k6⟩ := iNat_inv k5
  obtain ⟨d, hu, k7⟩ := undK_inv p k6
  obtain ⟨el, rfl, k8⟩ := tdSlice_inv k7
  obtain ⟨ti, hti, k9⟩ := sizeK_inv p k8
  obtain ⟨e1, k10⟩ := iff_t k9
  obtain ⟨e2, k11⟩ := iff_t k10
  obtain ⟨e3, k12⟩ := iff_t k11
  obtain ⟨e4, k13⟩ := iff_t k12
  have e1 : n ≤ c' := Nat.le_of_ble_eq_true e1
  have e2 : c' ≤ 1000000 := Nat.le_of_ble_eq_true e2
  have e3 : 1 ≤ ti.size := Nat.le_of_ble_eq_true e3
  have e4 : ti.size ≤ 1024 := Nat.le_of_ble_eq_true e4
  obtain ⟨ti', z, r, hti', hz, k14, hr⟩ := zeroK_inv p k13
  rw [hti] at hti'; cases hti'
  rw [repK_eq] at k14
  obtain ⟨h', k15, a1, a2, a3⟩ := push_inv k14
  obtain ⟨hby, z', hz', hzs⟩ := p.zOk t el ti (undK_mem k6) hu hti e4
  rw [hz] at hz'; cases hz'
  have hmem : l ∈ o.op.operands ∧ c ∈ o.op.operands := by simp [ho, Op.operands]
  refine ⟨_, n, h', k15, a1, a2, a3, fun δ W E hE => ?_⟩
  have hlv := dec_int (hl δ E _ hE hmem.1)
  have hcv := dec_int (hc δ E _ hE hmem.2)
  have hrun := makeSlice_run (j := jl) (q := jc) hu hti hz hzs e3 hby e1 e2 W
  rw [← hlv, ← hcv] at hrun
  have hfl : ∀ k : Nat, (List.replicate k z.cells.toList).flatten.length = k * ti.size := fun k => by simp [hzs]
  refine ⟨c', .slice (some ⟨W.heap.size, 0, none⟩) n c', W.alloc (.cells ((List.replicate c' z.cells.toList).flatten).toArray el), World.grownBy_alloc W _ _, by simp, fun F δ' hf hle => ?_, fun N δ' hN => ?_, Yields.of fun rd X kn kb kdd hkb => ?_⟩
  rotate_left 2
  · unfold vcOpV
    rw [ho]
    exact ⟨kVal_do hrun hkb⟩
  · refine obR_row hf (decL_flat (dec_cells (hr δ')) n) (hfl n) (World.alloc_heap_new W _) e1 (by simp [maxLen]; omega) (by simpa using hfl c') ?_
    show ((List.replicate c' z.cells.toList).flatten).take (n * ti.size) = _
    obtain ⟨m, rfl⟩ := Nat.exists_eq_add_of_le e1
    rw [← List.replicate_append_replicate, List.flatten_append, List.take_append_of_le_length (by rw [hfl]; exact Nat.le_refl _)]
    exact List.take_of_length_le (Nat.le_of_eq (hfl n))
  · rw [slc_dec hN (by omega)]; simp
end
end Go.L.Ev
namespace Go.L.Ev
open Go Go.RowKit
variable [Ext]
set_option linter.unusedSimpArgs false
set_option linter.unusedVariables false
section
variable {P : Program} {ty : TyT} {fu : FuT}

theorem bytes_of_cells {us : List Value} {bs : List Nat} (hb : ∀ b ∈ bs, b < 256) (hu : us = bs.map fun b : Nat => Value.int .u8 (b : Int)) : ∀ j (hj : j < (bs.map UInt8.ofNat).length), us[j]? = some (.int .u8 (((bs.map UInt8.ofNat)[j]'hj).toNat : Int)) := by
  intro j hj
  have hj2 : j < bs.length := by simpa using hj
  subst hu
  have := hb bs[j] (List.getElem_mem hj2)
  simp only [List.getElem?_map, List.getElem?_eq_getElem hj2, Option.map_some, List.getElem_map]
  rw [UInt8.toNat_ofNat_of_lt' (by simpa [UInt8.size] using this)]
/-- A conversion: of a number, of a text's bytes, of a text. -/
theorem oConv_ok (p : Pg P ty fu) {o : Oper} {s d : TypeId} {x : Operand} (ho : o.op = .convert s d x) {call e h k kd kp} (hk : oConv s d x ty call e h k kd kp = true) :
    ((∃ r, k r h = true ∧ QAns P o e h r)) ∨
    ((∃ el, P.underlying d = some (.slice el)) ∧ ∃ ob n h', k (.slc h.next 0 0 n) h' = true ∧ h'.next = h.next + 1 ∧ h'.at h.next = ob ∧ (∀ j, j ≠ h.next → h'.at j = h.at j) ∧ AAns P o e ob (fun N => .slc N 0 0 n)) := by
  obtain ⟨v, k1, hv⟩ := opd_o hk
  obtain ⟨sd, hs, k2⟩ := undK_inv p k1
  obtain ⟨dd, hd, k3⟩ := undK_inv p k2
  have hm : x ∈ o.op.operands := by simp [ho, Op.operands]
  cases dd with
  | int kk => exact .inl (oConv_int p ho hd hk)
  | string =>
    refine .inl ?_
    have k3 : (undK ty s fun sd => iff (Nat.beq (kindD sd) 3) (rvStr v fun m i => k (.str m i) h)
      (tdSlice sd fun el => undK ty el fun ed => tdInt ed fun kk => iff (ikEq kk .u8) (slCells h 1 v fun n l => bytesK l fun m => k (.str m n) h) false)) = true := k3
    obtain ⟨sd', hs', k4⟩ := undK_inv p k3
    rw [hs] at hs'; cases hs'
    have fin : ∀ r, k r h = true → (∀ F δ W a, RelA F δ h W → dec δ v = some a → ∃ y, dec δ r = some y ∧ ∀ n, (convert s d a).run P (W.drewN n) = .ok y (W.drewN n)) → ∃ r, k r h = true ∧ QAns P o e h r := by
      intro r hkr hr
      refine ⟨r, hkr, fun F δ W E hR hE => ?_⟩
      obtain ⟨y, hy, hrun⟩ := hr F δ W _ hR (hv δ E _ hE hm)
      refine ⟨y, hy, fun q => Yields.of fun rd X kn kb kdd hkb => ?_⟩
      unfold vcOpV
      rw [ho]
      refine ⟨kSem_look (v := y) (fun n => ?_) hkb⟩
      simp only [Sem.run_bind, hrun n, Result.andThen_ok, Sem.run_pure]
    rcases iff_inv k4 with ⟨e1, k5⟩ | ⟨e1, k5⟩
    · cases kind3 e1
      obtain ⟨m, i, rfl, hw, k6⟩ := rvStr_inv k5
      refine fin _ k6 fun F δ W a hR ha => ⟨_, ha, fun n => ?_⟩
      rw [dec_str hw ha]
      simp [convert, run_underlying hs, run_underlying hd]
    · obtain ⟨el, rfl, k6⟩ := tdSlice_inv k5
      obtain ⟨ed, hed, k7⟩ := undK_inv p k6
      obtain ⟨kk, rfl, k8⟩ := tdInt_inv k7
      obtain ⟨e2, k9⟩ := iff_t k8
      cases ikEq_inv e2
      obtain ⟨n, l, k10, hsl⟩ := slCells_ok k9
      obtain ⟨m, k11, b0, bs, b1, b2, b3⟩ := bytesK_inv l k10
      refine fin _ k11 fun F δ W a hR ha => ?_
      obtain ⟨us, hus, hul, hcell⟩ := hsl F δ W a hR ha
      have hue : us = bs.map fun b : Nat => Value.int .u8 (b : Int) := by
        have := b3 δ
        rw [hus] at this; exact Option.some.inj this
      have hln : l.length = n := by have := decL_len hus; omega
      refine ⟨.string (strOf m n), str_dec (fun e => b0 (List.eq_nil_of_length_eq_zero (by omega))), fun q => ?_⟩
      have hstr : strOf m n = ⟨(bs.map UInt8.ofNat).toArray⟩ := by rw [strOf, ← hln, b2]
      have hbl : (bs.map UInt8.ofNat).length = n := by rw [← b2, bytesOf_len, hln]
      rw [hstr]
      rcases hcell with ⟨c, rfl, rfl, rfl⟩ | ⟨ad, c, rfl, hc⟩
      · have hb0 : bs = [] := List.eq_nil_of_length_eq_zero (by simpa using hbl)
        subst hb0
        rw [run_convert_bytes_string _ s d el none 0 c hs hed hd]
        simp [Conv.bytesToString]
        rfl
      · have := run_convert_bytes_back (P := P) (W.drewN q) s d el ad c (bs.map UInt8.ofNat) hs hed hd (fun j hj => by
          have h1 := hc j _ (bytes_of_cells b1 hue j hj)
          simpa using h1)
        rw [hbl] at this
        exact this
  | slice el =>
    refine .inr ⟨⟨el, hd⟩, ?_⟩
    have k3 : (undK ty el fun ed => tdInt ed fun kk => iff (ikEq kk .u8) (rvStr v fun m i => cellsOfStr i m fun cs => push (.bx el cs) h fun j h' => k (.slc j 0 0 i) h') false) = true := k3
    obtain ⟨ed, hed, k4⟩ := undK_inv p k3
    obtain ⟨kk, rfl, k5⟩ := tdInt_inv k4
    obtain ⟨e1, k6⟩ := iff_t k5
    cases ikEq_inv e1
    obtain ⟨m, i, rfl, hw, k7⟩ := rvStr_inv k6
    obtain ⟨cs, k8, hcs⟩ := cellsOfStr_inv i m k7
    obtain ⟨h', k9, a1, a2, a3⟩ := push_inv k8
    refine ⟨_, i, h', k9, a1, a2, a3, fun δ W E hE => ?_⟩
    have hx := dec_str hw (hv δ E _ hE hm)
    have hge := grownCap_ge W (strOf m i).size 0 el
    rw [strOf_size] at hge
    have hnew := Lib.bytesWorld_at_new W el (strOf m i)
    have hsz := Lib.bytesWorld_size W el (strOf m i)
    have hrun := Lib.run_convert_string_bytes (P := P) W s d el (strOf m i) hs hd hed
    rw [strOf_size] at hrun
    have hcells : Lib.bytesCells W el (strOf m i) = ((((bytesOf i m).map fun b : UInt8 => Value.int .u8 b.toNat) ++ List.replicate (grownCap W i 0 el - i) (Value.int .u8 0) : List Value)).toArray := by
      apply Array.toList_inj.1
      simp only [Lib.bytesCells, strOf_size]
      simp [strOf]
    refine ⟨grownCap W i 0 el, .slice (some ⟨W.heap.size, 0, none⟩) i (grownCap W i 0 el), Lib.bytesWorld W el (strOf m i), ⟨rfl, rfl, rfl, by omega, fun b hb _ => Lib.bytesWorld_at_old W el _ b hb⟩, by omega, fun F δ' hf hle => ?_, fun N δ' hN => ?_, Yields.of fun rd X kn kb kdd hkb => ?_⟩
    · refine ⟨hf, _, List.replicate (grownCap W i 0 el - i) (.int .u8 0), ((Lib.bytesCells W el (strOf m i)).size, (Lib.bytesCells W el (strOf m i)).size + 1), hcs δ', ?_, fun j hj => ?_⟩
      · rw [hnew, ← hcells]
      · simp [bytesOf_len] at hj
        simp only [hcells, List.size_toArray, List.length_append, List.length_map, bytesOf_len, List.length_replicate]
        omega
    · have h0 : 0 + i ≤ grownCap W i 0 el := by omega
      rw [slc_dec hN h0]; simp
    · unfold vcOpV
      rw [ho]
      show kConv _ W s d (ev E x) _
      rw [hx]
      exact ⟨kVal_do hrun hkb⟩
  | _ => exact absurd (show false = true from k3) (by decide)
end
end Go.L.Ev
namespace Go.L.Ev
open Go Go.RowKit
variable [Ext]
set_option linter.unusedSimpArgs false
set_option linter.unusedVariables false
section
variable {P : Program} {ty : TyT} {fu : FuT}

theorem bytes_beq (s t : ByteArray) : (s == t) = (s.toList == t.toList) := by
  rw [ByteArray.toList_eq, ByteArray.toList_eq]
  obtain ⟨s⟩ := s
  obtain ⟨t⟩ := t
  show (s == t) = (s.toList == t.toList)
  rw [Bool.eq_iff_iff, beq_iff_eq, beq_iff_eq]
  exact Array.toList_inj.symm
theorem eqS_now {d : TypeDesc} (h1 : 1 ≤ kindD d) (h3 : kindD d ≤ 3) {x y : RV} {κ : Bool → Bool} (h : eqS (kindD d) x y κ = true) :
    ∃ b, κ b = true ∧ ∀ δ a c, dec δ x = some a → dec δ y = some c → Instr.sameNow d a c = some b := by
  have hd : d = .bool ∨ (∃ k, d = .int k) ∨ d = .string := by
    cases d <;> first | exact .inl rfl | exact .inr (.inl ⟨_, rfl⟩) | exact .inr (.inr rfl) | exact absurd h1 (by show ¬ 1 ≤ 0; decide) | exact absurd h3 (by simp [kindD])
  rcases hd with rfl | ⟨k, rfl⟩ | rfl
  · cases x with
    | bool a0 =>
      have h : (rvBool y fun b => boolF (bEq a0 b) κ) = true := h
      obtain ⟨b, rfl, g1⟩ := rvBool_inv h
      rw [boolF_eq] at g1
      refine ⟨_, g1, fun δ a c ha hc => ?_⟩
      rw [dec_bool ha, dec_bool hc, bEq_eq]; rfl
    | _ => exact absurd (show false = true from h) (by decide)
  · cases x with
    | int q n =>
      have h : (rvInt y fun k b => iff (ikEq q k) (boolF (iEq n b) κ) false) = true := h
      obtain ⟨q', m, rfl, g1⟩ := rvInt_inv h
      obtain ⟨e1, g2⟩ := iff_t g1
      cases ikEq_inv e1
      rw [boolF_eq] at g2
      refine ⟨_, g2, fun δ a c ha hc => ?_⟩
      rw [dec_int ha, dec_int hc, iEq_eq]
      simp [Instr.sameNow]
    | _ => exact absurd (show false = true from h) (by decide)
  · cases x with
    | str m i =>
      have h : (iff (strB m i) (rvStr y fun n j => boolF (sEq m i n j) κ) false) = true := h
      obtain ⟨hw, h⟩ := iff_t h
      obtain ⟨n, j, rfl, hw', g1⟩ := rvStr_inv h
      rw [boolF_eq] at g1
      refine ⟨_, g1, fun δ a c ha hc => ?_⟩
      rw [dec_str (strB_w hw) ha, dec_str hw' hc, sEq_eq]
      simp only [Instr.sameNow]
      congr 1
      exact bytes_beq _ _
    | _ => exact absurd (show false = true from h) (by decide)
/-- A map's entries, one by one. -/
theorem decE_cons_inv {δ : Pl} {k v : RV} {j : Nat} {l : List (RV × RV × Nat)} {z : List MapEntry} (h : decE δ ((k, v, j) :: l) = some z) : ∃ x y m, dec δ k = some x ∧ dec δ v = some y ∧ decE δ l = some m ∧ z = ⟨x, y, j⟩ :: m := by
  simp only [decE] at h
  cases hk : dec δ k with
  | none => simp [hk] at h
  | some x =>
    cases hv : dec δ v with
    | none => simp [hk, hv] at h
    | some y =>
      cases hl : decE δ l with
      | none => simp [hk, hv, hl] at h
      | some m => rw [hk, hv, hl] at h; exact ⟨x, y, m, rfl, rfl, rfl, (Option.some.inj h).symm⟩
theorem decE_cons {δ : Pl} {k v : RV} {j : Nat} {l : List (RV × RV × Nat)} {x y : Value} {m : List MapEntry} (hk : dec δ k = some x) (hv : dec δ v = some y) (hl : decE δ l = some m) : decE δ ((k, v, j) :: l) = some (⟨x, y, j⟩ :: m) := by simp [decE, hk, hv, hl]
theorem keyK_inv (p : Pg P ty fu) {kt : TypeId} {κ : Nat → Bool} (h : keyK ty kt κ = true) : ∃ d, P.underlying kt = some d ∧ 1 ≤ kindD d ∧ kindD d ≤ 3 ∧ κ (kindD d) = true := by
  obtain ⟨d, hu, h1⟩ := undK_inv p h
  rw [natF_eq] at h1
  obtain ⟨e1, h2⟩ := iff_t h1
  obtain ⟨e2, h3⟩ := iff_t h2
  exact ⟨d, hu, Nat.le_of_ble_eq_true e2, Nat.le_of_ble_eq_true e1, h3⟩
theorem check_key {kt : TypeId} {d : TypeDesc} (hu : P.underlying kt = some d) (h1 : 1 ≤ kindD d) (h3 : kindD d ≤ 3) (e : Bool) (n : Nat) (k : Value) (w : World) : (Instr.checkKey e (n + 1) kt k).run P w = .ok () w := by
  unfold Instr.checkKey
  simp only [Sem.run_bind, run_underlying hu, Result.andThen_ok]
  cases d <;> first | rfl | (cases k <;> rfl) | exact absurd h1 (by show ¬ 1 ≤ 0; decide) | exact absurd h3 (by simp [kindD])
theorem mpGet_ok {d : TypeDesc} (h1 : 1 ≤ kindD d) (h3 : kindD d ≤ 3) {key : RV} : ∀ (es : List (RV × RV × Nat)) {no : Bool} {κ : RV → Bool}, mpGet (kindD d) key es no κ = true →
    (no = true ∧ ∀ δ k l i, dec δ key = some k → decE δ es = some l → Instr.findNow d k l i = some none) ∨
    ∃ r, κ r = true ∧ ∀ δ k l i, dec δ key = some k → decE δ es = some l → ∃ j v, dec δ r = some v ∧ Instr.findNow d k l i = some (some (j, v))
  | [], no, κ, h => .inl ⟨h, fun δ k l i _ hl => by simp only [decE, Option.some.injEq] at hl; subst hl; rfl⟩
  | (k0, v0, j0) :: es, no, κ, h => by
    have h : (eqS (kindD d) key k0 fun b => iff b (κ v0) (mpGet (kindD d) key es no κ)) = true := h
    obtain ⟨b, g1, g2⟩ := eqS_now h1 h3 h
    rcases iff_inv g1 with ⟨rfl, g3⟩ | ⟨rfl, g3⟩
    · refine .inr ⟨v0, g3, fun δ k l i hk hl => ?_⟩
      obtain ⟨x, y, m, q1, q2, q3, rfl⟩ := decE_cons_inv hl
      exact ⟨i, y, q2, by simp only [Instr.findNow, g2 δ k x hk q1]⟩
    · rcases mpGet_ok h1 h3 es g3 with ⟨g4, g5⟩ | ⟨r, g4, g5⟩
      · refine .inl ⟨g4, fun δ k l i hk hl => ?_⟩
        obtain ⟨x, y, m, q1, q2, q3, rfl⟩ := decE_cons_inv hl
        simp only [Instr.findNow, g2 δ k x hk q1]
        exact g5 δ k m _ hk q3
      · refine .inr ⟨r, g4, fun δ k l i hk hl => ?_⟩
        obtain ⟨x, y, m, q1, q2, q3, rfl⟩ := decE_cons_inv hl
        obtain ⟨j, v, q4, q5⟩ := g5 δ k m (i + 1) hk q3
        exact ⟨j, v, q4, by simp only [Instr.findNow, g2 δ k x hk q1]; exact q5⟩
theorem mapEs_inv {h : Hp} {v : RV} {κ : List (RV × RV × Nat) → Bool} (hk : mapEs h v κ = true) : (v = .nilm ∧ κ [] = true) ∨ ∃ i c es, v = .map i ∧ h.at i = .mp c es ∧ κ es = true := by
  cases v with
  | nilm => exact .inl ⟨rfl, hk⟩
  | map i =>
    obtain ⟨c, es, h1, h2⟩ := obMap_inv (h := h) (i := i) (κ := fun _ es => κ es) hk
    exact .inr ⟨i, c, es, rfl, h1, h2⟩
  | _ => exact absurd (show false = true from hk) (by decide)
/-- What a look-up goes on with. -/
def foundS (et : TypeId) : Option (Nat × Value) → Sem (Value × Bool)
  | some (_, v) => pure (v, true)
  | none => do pure (← zeroValue et, false)
theorem oLook_ok (p : Pg P ty fu) {o : Oper} {t : TypeId} {x ix : Operand} {ok : Bool} (ho : o.op = .lookup t x ix ok) {call e h k kd kp} (hk : oLook t x ix ok ty call e h k kd kp = true) : ∃ r, k r h = true ∧ QAns P o e h r := by
  obtain ⟨v, k1, hv⟩ := opd_o hk
  obtain ⟨key, k2, hkey⟩ := opd_o k1
  obtain ⟨td, hu, k3⟩ := undK_inv p k2
  obtain ⟨kt, et, rfl, k4⟩ := tdMap_inv k3
  obtain ⟨d, hkt, d1, d3, k5⟩ := keyK_inv p k4
  have hm : x ∈ o.op.operands ∧ ix ∈ o.op.operands := by simp [ho, Op.operands]
  have run : ∀ (W : World) (a : Value) (l : List MapEntry), (a = .map none ∧ l = [] ∨ ∃ b clock, a = .map (some b) ∧ W.heap[b]? = some (.map l.toArray clock)) → ∀ (kv : Value) (fnd : Option (Nat × Value)) (y : Value × Bool), Instr.findNow d kv l 0 = some fnd →
      (∀ w : World, Sem.run P (foundS et fnd) w = Result.ok y w) → ∀ n, (Instr.lookup t a kv ok).run P (W.drewN n) = .ok (if ok then .tuple #[y.1, .bool y.2] else y.1) (W.drewN n) := by
    intro W a l ha kv fnd y hf hy n
    rcases ha with ⟨rfl, rfl⟩ | ⟨b, clock, rfl, hb⟩
    · have hf' := MapKept.run_findKey (P := P) (w := W.drewN n) hkt hf
      simp only [Instr.lookup, Sem.run_bind, run_underlying hu, Result.andThen_ok, Sem.run_pure, check_key hkt d1 d3, hf']
      have := hy (W.drewN n)
      cases fnd with
      | some q => simp_all [foundS]
      | none =>
        simp only [foundS, Sem.run_bind, Sem.run_pure] at this
        cases hz : Sem.run P (zeroValue et) (W.drewN n) with
        | ok a w' =>
          rw [hz] at this
          simp only [Result.andThen_ok, Result.ok.injEq] at this
          obtain ⟨rfl, rfl⟩ := this
          simp [hz]
        | halt a w' => rw [hz] at this; cases this
    · have hf' := MapKept.run_findKey (P := P) (w := W.drewN n) hkt hf
      have hb' : (W.drewN n).heap[b]? = some (.map l.toArray clock) := by simpa using hb
      simp only [Instr.lookup, Sem.run_bind, run_underlying hu, Result.andThen_ok, Sem.run_pure, check_key hkt d1 d3, hf', MapKept.run_getObj_map hb']
      have := hy (W.drewN n)
      cases fnd with
      | some q => simp_all [foundS]
      | none =>
        simp only [foundS, Sem.run_bind, Sem.run_pure] at this
        cases hz : Sem.run P (zeroValue et) (W.drewN n) with
        | ok a w' =>
          rw [hz] at this
          simp only [Result.andThen_ok, Result.ok.injEq] at this
          obtain ⟨rfl, rfl⟩ := this
          simp [hz]
        | halt a w' => rw [hz] at this; cases this
  have look : ∀ es, (mpGet (kindD d) key es (zeroK ty et fun z => iff ok (k (.tup [z, .bool false]) h) (k z h)) fun r => iff ok (k (.tup [r, .bool true]) h) (k r h)) = true →
      (∀ F δ W a, RelA F δ h W → dec δ v = some a → ∃ l, decE δ es = some l ∧ (a = .map none ∧ l = [] ∨ ∃ b clock, a = .map (some b) ∧ W.heap[b]? = some (.map l.toArray clock))) → ∃ r, k r h = true ∧ QAns P o e h r := by
    intro es g1 g2
    have fin : ∀ r b, iff ok (k (.tup [r, .bool b]) h) (k r h) = true → (∀ δ kv l, dec δ key = some kv → decE δ es = some l → ∃ x : Value, dec δ r = some x ∧ ∃ fnd : Option (Nat × Value), Instr.findNow d kv l 0 = some fnd ∧
        ∀ w : World, Sem.run P (foundS et fnd) w = Result.ok (x, b) w) → ∃ r, k r h = true ∧ QAns P o e h r := by
      intro r b g3 g4
      have fin2 : ∀ r', k r' h = true → (∀ δ x, dec δ r = some x → dec δ r' = some (if ok then .tuple #[x, .bool b] else x)) → ∃ r, k r h = true ∧ QAns P o e h r := by
        intro r' g5 g6
        refine ⟨r', g5, fun F δ W E hR hE => ?_⟩
        obtain ⟨l, q1, q2⟩ := g2 F δ W _ hR (hv δ E _ hE hm.1)
        obtain ⟨xv, q3, fnd, q4, q5⟩ := g4 δ _ l (hkey δ E _ hE hm.2) q1
        refine ⟨_, g6 δ xv q3, fun q => Yields.of fun rd X kn kb kdd hkb => ?_⟩
        unfold vcOpV
        rw [ho]
        refine ⟨kSem_look (v := (if ok then .tuple #[xv, .bool b] else xv)) (fun n => ?_) hkb⟩
        simp only [Sem.run_bind, run W _ l q2 _ _ _ q4 q5 n, Result.andThen_ok, Sem.run_pure]
      rcases iff_inv g3 with ⟨rfl, g5⟩ | ⟨rfl, g5⟩
      · exact fin2 _ g5 fun δ x hx => by simp [dec, decL, hx]
      · exact fin2 _ g5 fun δ x hx => by simpa using hx
    rcases mpGet_ok d1 d3 es g1 with ⟨g3, g4⟩ | ⟨r, g3, g4⟩
    · obtain ⟨i, z, r, hi, hz, g5, hr⟩ := zeroK_inv p g3
      refine fin r false g5 fun δ kv l hkv hl => ⟨z, hr δ, none, g4 δ kv l 0 hkv hl, fun w => ?_⟩
      simp [foundS, zeroValue_run hi hz]
    · refine fin r true g3 fun δ kv l hkv hl => ?_
      obtain ⟨j, v', q1, q2⟩ := g4 δ kv l 0 hkv hl
      exact ⟨v', q1, _, q2, fun w => rfl⟩
  rcases mapEs_inv k5 with ⟨rfl, k6⟩ | ⟨i, c, es, rfl, hat, k6⟩
  · refine look [] k6 fun F δ W a hR ha => ⟨[], rfl, .inl ⟨?_, rfl⟩⟩
    simp only [dec, Option.some.injEq] at ha; exact ha.symm
  · refine look es k6 fun F δ W a hR ha => ?_
    obtain ⟨b, c', hb, hO⟩ := hR.get hat (by simp)
    obtain ⟨_, l, hl, hh⟩ := hO
    refine ⟨l, hl, .inr ⟨b, c, ?_, hh⟩⟩
    simp only [dec, hb, Option.map_some, Option.some.injEq] at ha
    exact ha.symm
end
end Go.L.Ev
namespace Go.L.Ev
open Go Go.RowKit
variable [Ext]
set_option linter.unusedSimpArgs false
set_option linter.unusedVariables false

/-- Lists of values, compared one by one. -/
noncomputable def rvEqL (l m : List RV) : Bool := rvEq (.agg l) (.agg m)
theorem fnEq_inv {f g : Fn} (h : fnEq f g = true) : f = g := by
  cases f with
  | func i =>
    cases g with
    | func j => cases Nat.eq_of_beq_eq_true (show Nat.beq i j = true from h); rfl
    | _ => exact absurd (show false = true from h) (by decide)
  | _ => exact absurd (show false = true from h) (by decide)
theorem isCon_inv {n : Nat} {v : RV} (h : isCon n v = true) : conN v = n := Nat.eq_of_beq_eq_true h
mutual
theorem rvEq_inv : ∀ (x y : RV), rvEq x y = true → x = y
  | .bool a, y, h => by
    obtain ⟨b, rfl, g⟩ := rvBool_inv (κ := fun b => bEq a b) h
    rw [bEq_eq] at g; rw [beq_iff_eq.1 g]
  | .int k n, y, h => by
    obtain ⟨k', m, rfl, g⟩ := rvInt_inv (κ := fun k' b => iff (ikEq k k') (iEq n b) false) h
    obtain ⟨g1, g2⟩ := iff_t g
    cases ikEq_inv g1
    rw [iEq_eq] at g2; rw [beq_iff_eq.1 g2]
  | .str n l, y, h => by
    obtain ⟨n', l', rfl, g⟩ := rvStrQ_inv (κ := fun n' j => iff (Nat.beq n n') (Nat.beq l j) false) h
    obtain ⟨g1, g2⟩ := iff_t g
    rw [Nat.eq_of_beq_eq_true g1, Nat.eq_of_beq_eq_true g2]
  | .ptr n l, y, h => by
    obtain ⟨n', l', rfl, g⟩ := rvPtr_inv (κ := fun n' j => iff (Nat.beq n n') (Nat.beq l j) false) h
    obtain ⟨g1, g2⟩ := iff_t g
    rw [Nat.eq_of_beq_eq_true g1, Nat.eq_of_beq_eq_true g2]
  | .nilp, y, h => by cases y <;> first | rfl | exact absurd (isCon_inv h) (by decide) | exact absurd (isCon_inv h) (by simp [conN])
  | .glob n l, y, h => by
    obtain ⟨n', l', rfl, g⟩ := rvGlob_inv (κ := fun n' j => iff (Nat.beq n n') (Nat.beq l j) false) h
    obtain ⟨g1, g2⟩ := iff_t g
    rw [Nat.eq_of_beq_eq_true g1, Nat.eq_of_beq_eq_true g2]
  | .slc a b c d, y, h => by
    obtain ⟨a', b', c', d', rfl, g⟩ := rvSlc_inv (κ := fun b0 b1 b2 b3 => iff (Nat.beq a b0) (iff (Nat.beq b b1) (iff (Nat.beq c b2) (Nat.beq d b3) false) false) false) h
    obtain ⟨g1, g⟩ := iff_t g
    obtain ⟨g2, g⟩ := iff_t g
    obtain ⟨g3, g4⟩ := iff_t g
    rw [Nat.eq_of_beq_eq_true g1, Nat.eq_of_beq_eq_true g2, Nat.eq_of_beq_eq_true g3, Nat.eq_of_beq_eq_true g4]
  | .asl a b c d, y, h => by
    obtain ⟨a', b', c', d', rfl, g⟩ := rvAsl_inv (κ := fun b0 b1 b2 b3 => iff (Nat.beq a b0) (iff (Nat.beq b b1) (iff (Nat.beq c b2) (Nat.beq d b3) false) false) false) h
    obtain ⟨g1, g⟩ := iff_t g
    obtain ⟨g2, g⟩ := iff_t g
    obtain ⟨g3, g4⟩ := iff_t g
    rw [Nat.eq_of_beq_eq_true g1, Nat.eq_of_beq_eq_true g2, Nat.eq_of_beq_eq_true g3, Nat.eq_of_beq_eq_true g4]
  | .nils, y, h => by cases y <;> first | rfl | exact absurd (isCon_inv h) (by simp [conN])
  | .nilm, y, h => by cases y <;> first | rfl | exact absurd (isCon_inv h) (by simp [conN])
  | .map a, y, h => by
    obtain ⟨a', rfl, g⟩ := rvMap_inv (κ := fun i => Nat.beq a i) h
    rw [Nat.eq_of_beq_eq_true g]
  | .fn f a b, y, h => by
    obtain ⟨g, c, d, rfl, k⟩ := rvFn_inv (κ := fun g c d => iff (fnEq f g) (iff (rvEqL a c) (rvEqL b d) false) false) h
    obtain ⟨k1, k⟩ := iff_t k
    obtain ⟨k2, k3⟩ := iff_t k
    rw [fnEq_inv k1, rvEqL_inv a c k2, rvEqL_inv b d k3]
  | .nilf, y, h => by cases y <;> first | rfl | exact absurd (isCon_inv h) (by simp [conN])
  | .ifc t v, y, h => by
    obtain ⟨t', v', rfl, g⟩ := rvIfc_inv (κ := fun t' v' => iff (Nat.beq t t') (rvEq v v') false) h
    obtain ⟨g1, g2⟩ := iff_t g
    rw [Nat.eq_of_beq_eq_true g1, rvEq_inv v v' g2]
  | .nili, y, h => by cases y <;> first | rfl | exact absurd (isCon_inv h) (by simp [conN])
  | .agg l, y, h => by
    obtain ⟨m, rfl, g⟩ := rvAgg_inv (κ := fun m => rvEqL l m) h
    rw [rvEqL_inv l m g]
  | .tup l, y, h => by
    obtain ⟨m, rfl, g⟩ := rvTup_inv (κ := fun m => rvEqL l m) h
    rw [rvEqL_inv l m g]
  | .emp _ _ _ _ _, y, h => absurd (show false = true from h) (by decide)
  | .yld a, y, h => by
    obtain ⟨a', rfl, g⟩ := rvYld_inv (κ := fun i => Nat.beq a i) h
    rw [Nat.eq_of_beq_eq_true g]
  | .skp, y, h => by cases y <;> first | rfl | exact absurd (isCon_inv h) (by simp [conN])
theorem rvEqL_inv : ∀ (l m : List RV), rvEqL l m = true → l = m
  | [], [], _ => rfl
  | [], _ :: _, h => absurd (show false = true from h) (by decide)
  | _ :: _, [], h => absurd (show false = true from h) (by decide)
  | a :: l, b :: m, h => by
    have h : iff (rvEq a b) (rvEqL l m) false = true := h
    obtain ⟨g1, g2⟩ := iff_t h
    rw [rvEq_inv a b g1, rvEqL_inv l m g2]
end
end Go.L.Ev
namespace Go.L.Ev
open Go Go.RowKit
variable [Ext]
set_option linter.unusedSimpArgs false
set_option linter.unusedVariables false
section
variable {P : Program} {ty : TyT} {fu : FuT}

theorem mpSet_ok {d : TypeDesc} (h1 : 1 ≤ kindD d) (h3 : kindD d ≤ 3) {key val : RV} {c : Nat} : ∀ (es : List (RV × RV × Nat)) {κ : Nat → List (RV × RV × Nat) → Bool}, mpSet (kindD d) key val c es κ = true →
    ∃ c' es', κ c' es' = true ∧ ∀ δ k v l i, dec δ key = some k → dec δ val = some v → decE δ es = some l →
      (∃ j en, Instr.findNow d k l i = some (some (i + j, en.val)) ∧ l[j]? = some en ∧ en.key = k ∧ c' = c ∧ decE δ es' = some (l.modify j fun e => { e with key := k, val := v })) ∨
      (Instr.findNow d k l i = some none ∧ c' = c + 1 ∧ decE δ es' = some (l ++ [⟨k, v, c⟩]))
  | [], κ, h => by
    have h : (natF (Nat.succ c) fun c' => κ c' [(key, val, c)]) = true := h
    rw [natF_eq] at h
    refine ⟨_, _, h, fun δ k v l i hk hv hl => .inr ?_⟩
    simp only [decE, Option.some.injEq] at hl
    subst hl
    exact ⟨rfl, rfl, decE_cons hk hv rfl⟩
  | (k0, v0, j0) :: es, κ, h => by
    have h : (eqS (kindD d) key k0 fun b => iff b (iff (rvEq key k0) (κ c ((key, val, j0) :: es)) false) (mpSet (kindD d) key val c es fun c' r => κ c' ((k0, v0, j0) :: r))) = true := h
    obtain ⟨b, g1, g2⟩ := eqS_now h1 h3 h
    rcases iff_inv g1 with ⟨rfl, g3⟩ | ⟨rfl, g3⟩
    · obtain ⟨g4, g5⟩ := iff_t g3
      cases rvEq_inv _ _ g4
      refine ⟨_, _, g5, fun δ k v l i hk hv hl => .inl ?_⟩
      obtain ⟨x, y, m, q1, q2, q3, rfl⟩ := decE_cons_inv hl
      rw [hk] at q1; cases q1
      refine ⟨0, ⟨k, y, j0⟩, by simp only [Instr.findNow, g2 δ k k hk hk]; rfl, rfl, rfl, rfl, ?_⟩
      exact decE_cons hk hv q3
    · obtain ⟨c', es', g4, g5⟩ := mpSet_ok h1 h3 es g3
      refine ⟨c', _, g4, fun δ k v l i hk hv hl => ?_⟩
      obtain ⟨x, y, m, q1, q2, q3, rfl⟩ := decE_cons_inv hl
      rcases g5 δ k v m (i + 1) hk hv q3 with ⟨j, en, r1, r2, r3, r4, r5⟩ | ⟨r1, r2, r3⟩
      · refine .inl ⟨j + 1, en, ?_, by simpa using r2, r3, r4, ?_⟩
        · simp only [Instr.findNow, g2 δ k x hk q1]
          rw [r1]; congr 3; omega
        · exact decE_cons q1 q2 r5
      · refine .inr ⟨?_, r2, decE_cons q1 q2 r3⟩
        simp only [Instr.findNow, g2 δ k x hk q1]
        exact r1
theorem mpFind_ok {d : TypeDesc} (h1 : 1 ≤ kindD d) (h3 : kindD d ≤ 3) {key : RV} : ∀ (es : List (RV × RV × Nat)) {no : Bool} {κ : RV → Nat → Bool}, mpFind (kindD d) key es no κ = true →
    (no = true ∧ ∀ δ k l i, dec δ key = some k → decE δ es = some l → Instr.findNow d k l i = some none) ∨ ∃ r s, κ r s = true ∧ ∀ δ k l i, dec δ key = some k → decE δ es = some l →
      ∃ j en, Instr.findNow d k l i = some (some (i + j, en.val)) ∧ l[j]? = some en ∧ en.key = k ∧ en.born = s ∧ dec δ r = some en.val
  | [], no, κ, h => .inl ⟨h, fun δ k l i _ hl => by simp only [decE, Option.some.injEq] at hl; subst hl; rfl⟩
  | (k0, v0, j0) :: es, no, κ, h => by
    have h : (eqS (kindD d) key k0 fun b => iff b (iff (rvEq key k0) (κ v0 j0) false) (mpFind (kindD d) key es no κ)) = true := h
    obtain ⟨b, g1, g2⟩ := eqS_now h1 h3 h
    rcases iff_inv g1 with ⟨rfl, g3⟩ | ⟨rfl, g3⟩
    · obtain ⟨g4, g5⟩ := iff_t g3
      cases rvEq_inv _ _ g4
      refine .inr ⟨v0, j0, g5, fun δ k l i hk hl => ?_⟩
      obtain ⟨x, y, m, q1, q2, q3, rfl⟩ := decE_cons_inv hl
      rw [hk] at q1; cases q1
      exact ⟨0, ⟨k, y, j0⟩, by simp only [Instr.findNow, g2 δ k k hk hk]; rfl, rfl, rfl, rfl, q2⟩
    · rcases mpFind_ok h1 h3 es g3 with ⟨g4, g5⟩ | ⟨r, s, g4, g5⟩
      · refine .inl ⟨g4, fun δ k l i hk hl => ?_⟩
        obtain ⟨x, y, m, q1, q2, q3, rfl⟩ := decE_cons_inv hl
        simp only [Instr.findNow, g2 δ k x hk q1]
        exact g5 δ k m _ hk q3
      · refine .inr ⟨r, s, g4, fun δ k l i hk hl => ?_⟩
        obtain ⟨x, y, m, q1, q2, q3, rfl⟩ := decE_cons_inv hl
        obtain ⟨j, en, r1, r2, r3, r4, r5⟩ := g5 δ k m (i + 1) hk q3
        refine ⟨j + 1, en, ?_, by simpa using r2, r3, r4, r5⟩
        simp only [Instr.findNow, g2 δ k x hk q1]
        rw [r1]; congr 3; omega
/-- A key that is found is itself. -/
theorem same_self {d : TypeDesc} {k : Value} {l : List MapEntry} {i j : Nat} {v : Value} (h : Instr.findNow d k l i = some (some (j, v))) : Instr.sameBits 10000 k k = true := by
  have key : (∃ b, k = .bool b) ∨ (∃ q n, k = .int q n) ∨ ∃ s, k = .string s := by
    cases l with
    | nil => cases h
    | cons e l =>
      simp only [Instr.findNow] at h
      unfold Instr.sameNow at h
      split at h
      · rename_i hs
        split at hs <;> first | exact .inl ⟨_, rfl⟩ | exact .inr (.inl ⟨_, _, rfl⟩) | exact .inr (.inr ⟨_, rfl⟩) | cases hs
      · rename_i hs
        split at hs <;> first | exact .inl ⟨_, rfl⟩ | exact .inr (.inl ⟨_, _, rfl⟩) | exact .inr (.inr ⟨_, rfl⟩) | cases hs
      · cases h
  rcases key with ⟨b, rfl⟩ | ⟨q, n, rfl⟩ | ⟨s, rfl⟩
  · simp [Instr.sameBits]
  · simp [Instr.sameBits]
  · simp only [Instr.sameBits]; rw [bytes_beq]; simp
theorem keyStays {k : Value} (h : Instr.sameBits 10000 k k = true) (w : World) : (Instr.keyThatStays k k).run P w = .ok k w := by simp [Instr.keyThatStays, h]
theorem grown_setObj (W : World) (b : Nat) (o : Obj) : W.grownBy { W with heap := W.heap.setIfInBounds b o } (some b) :=
  ⟨rfl, rfl, rfl, by simp, fun k _ hne => by
    have : b ≠ k := fun e => hne (by rw [e])
    simp [this]⟩
theorem set_new {W : World} {b : Nat} {o o' : Obj} (h : W.heap[b]? = some o) : ({ W with heap := W.heap.setIfInBounds b o' } : World).heap[b]? = some o' := by
  have hlt : b < W.heap.size := (Array.getElem?_eq_some_iff.1 h).1
  simp [hlt]
theorem oUpd_at (p : Pg P ty fu) {o : Oper} {t : TypeId} {m ix x : Operand} (ho : o.op = .mapUpdate t m ix x ∨ o.op = .insert t m ix x) {call e h k kd kp} (hk : oUpd t m ix x ty call e h k kd kp = true) :
    ∃ i ob ob' h', k undefR h' = true ∧ h.at i = ob ∧ ob ≠ .no ∧ h'.next = h.next ∧ h'.at i = ob' ∧ (∀ j, j ≠ i → h'.at j = h.at j) ∧ SAns P o e i ob ob' ∧ ∀ δ E xs, EnvO δ e E xs → m ∈ xs → dec δ (.map i) = some (ev E m) := by
  obtain ⟨mv, k1, hmv⟩ := opd_o hk
  obtain ⟨key, k2, hkey⟩ := opd_o k1
  obtain ⟨v, k3, hv⟩ := opd_o k2
  obtain ⟨td, hu, k4⟩ := undK_inv p k3
  obtain ⟨kt, et, rfl, k5⟩ := tdMap_inv k4
  obtain ⟨d, hkt, d1, d3, k6⟩ := keyK_inv p k5
  obtain ⟨i, rfl, k7⟩ := rvMap_inv k6
  obtain ⟨c, es, hat, k8⟩ := obMap_inv k7
  obtain ⟨c', es', k9, hset⟩ := mpSet_ok d1 d3 es k8
  obtain ⟨h', k10, a1, a2, a3⟩ := setO_inv k9
  have hm : m ∈ o.op.operands ∧ ix ∈ o.op.operands ∧ x ∈ o.op.operands := by rcases ho with ho | ho <;> simp [ho, Op.operands]
  refine ⟨i, _, _, h', k10, hat, by simp, a1, a2, a3, fun F δ W E b cp hE hb hO => ?_, hmv⟩
  obtain ⟨hf, l, hl, hh⟩ := hO
  have hmd := hmv δ E _ hE hm.1
  simp only [dec, hb, Option.map_some, Option.some.injEq] at hmd
  have hg := MapKept.run_getObj_map (P := P) hh
  obtain ⟨l', hl', hrun⟩ : ∃ l', decE δ es' = some l' ∧ (Instr.mapUpdate t (.map (some b)) (ev E ix) (ev E x)).run P W = .ok () { W with heap := W.heap.setIfInBounds b (.map l'.toArray c') } := by
    rcases hset δ _ _ l 0 (hkey δ E _ hE hm.2.1) (hv δ E _ hE hm.2.2) hl with ⟨j, en, r1, r2, r3, rfl, r5⟩ | ⟨r1, rfl, r3⟩
    · refine ⟨_, r5, ?_⟩
      rw [Nat.zero_add] at r1
      have hk := keyStays (P := P) (same_self r1) W
      have hj : l.toArray[j]? = some en := by simpa using r2
      have hs := MapKept.run_setObj_map (P := P) (.map (l.toArray.modify j fun e => { e with key := ev E ix, val := ev E x }) c') hh
      simp only [Instr.mapUpdate, Sem.run_bind, run_underlying hu, Result.andThen_ok, hg, check_key hkt d1 d3, MapKept.run_findKey hkt r1, hj, Option.map_some, Option.getD_some, r3, hk, hs]
      simp
    · refine ⟨_, r3, ?_⟩
      have hs := MapKept.run_setObj_map (P := P) (.map (l.toArray.push ⟨ev E ix, ev E x, c⟩) (c + 1)) hh
      simp only [Instr.mapUpdate, Sem.run_bind, run_underlying hu, Result.andThen_ok, hg, check_key hkt d1 d3, MapKept.run_findKey hkt r1, hs]
      simp
  refine ⟨_, grown_setObj W b _, ⟨hf, l', hl', set_new hh⟩, Yields.of fun rd X kn kb kdd hkb => ?_⟩
  unfold vcOpV
  rcases ho with ho | ho
  · rw [ho]
    show kUpd _ W t (ev E m) (ev E ix) (ev E x) _
    rw [← hmd]
    exact ⟨kUnit_do hrun hkb⟩
  · rw [ho]
    show kUpd _ W t (ev E m) (ev E ix) (ev E x) _
    rw [← hmd]
    exact ⟨kUnit_do hrun hkb⟩
theorem oUpd_ok (p : Pg P ty fu) {o : Oper} {t : TypeId} {m ix x : Operand} (ho : o.op = .mapUpdate t m ix x ∨ o.op = .insert t m ix x) {call e h k kd kp} (hk : oUpd t m ix x ty call e h k kd kp = true) :
    ∃ i ob ob' h', k undefR h' = true ∧ h.at i = ob ∧ ob ≠ .no ∧ h'.next = h.next ∧ h'.at i = ob' ∧ (∀ j, j ≠ i → h'.at j = h.at j) ∧ SAns P o e i ob ob' := by
  obtain ⟨i, ob, ob', h', a, b, c, d, e, f, g, _⟩ := oUpd_at p ho hk
  exact ⟨i, ob, ob', h', a, b, c, d, e, f, g⟩
end
end Go.L.Ev
namespace Go.L.Ev
open Go Go.RowKit
variable [Ext]
set_option linter.unusedSimpArgs false
set_option linter.unusedVariables false
section
variable {P : Program} {ty : TyT} {fu : FuT}

theorem modify_same {l : List MapEntry} {j : Nat} {en : MapEntry} {k : Value} (h : l[j]? = some en) (hk : en.key = k) : l.modify j (fun e => { e with key := k }) = l := by
  apply List.ext_getElem?
  intro i
  rw [List.getElem?_modify]
  by_cases hij : j = i
  · subst hij
    rw [h]; subst hk; simp
  · simp [hij]
theorem oMpE_ok (p : Pg P ty fu) {o : Oper} {t : TypeId} {m ix : Operand} (ho : o.op = .mapEntry t m ix) {call e h k kd kp} (hk : oMpE t m ix ty call e h k kd kp = true) : ∃ r h', k r h' = true ∧ EAns P o e h r h' := by
  obtain ⟨mv, k1, hmv⟩ := opd_o hk
  obtain ⟨key, k2, hkey⟩ := opd_o k1
  obtain ⟨td, hu, k4⟩ := undK_inv p k2
  obtain ⟨kt, et, rfl, k5⟩ := tdMap_inv k4
  obtain ⟨d, hkt, d1, d3, k6⟩ := keyK_inv p k5
  obtain ⟨i, rfl, k7⟩ := rvMap_inv k6
  obtain ⟨c, es, hat, k8⟩ := obMap_inv k7
  have hm : m ∈ o.op.operands ∧ ix ∈ o.op.operands := by simp [ho, Op.operands]
  rcases mpFind_ok d1 d3 es k8 with ⟨k9, hno⟩ | ⟨r, s, k9, hf⟩
  · obtain ⟨ti, z, zr, hti, hz, k10, hzr⟩ := zeroK_inv p k9
    obtain ⟨c', es', k11, hset⟩ := mpSet_ok d1 d3 es k10
    obtain ⟨h', k12, a1, a2, a3⟩ := setO_inv k11
    refine ⟨_, h', k12, Grow.set (by rw [hat]; simp) a1 a3, fun F δ W E hR hE rd X kn kb kdd hkn hkb => ?_⟩
    obtain ⟨b, cp, hb, hO⟩ := hR.get hat (by simp)
    obtain ⟨hfr, l, hl, hh⟩ := hO
    have hmd := hmv δ E _ hE hm.1
    simp only [dec, hb, Option.map_some, Option.some.injEq] at hmd
    have hg := MapKept.run_getObj_map (P := P) hh
    have hkd := hkey δ E _ hE hm.2
    have hnow := hno δ _ l 0 hkd hl
    rcases hset δ _ z l 0 hkd (hzr δ) hl with ⟨j, en, r1, _⟩ | ⟨r1, rfl, r3⟩
    · rw [hnow] at r1; cases r1
    · have hs := MapKept.run_setObj_map (P := P) (.map (l.toArray.push ⟨ev E ix, z, c⟩) (c + 1)) hh
      have hrun : (Instr.mapEntry t (.map (some b)) (ev E ix)).run P W = .ok (.tuple #[z, goInt c]) { W with heap := W.heap.setIfInBounds b (.map (l ++ [(⟨ev E ix, z, c⟩ : MapEntry)]).toArray (c + 1)) } := by
        simp only [Instr.mapEntry, Sem.run_bind, run_underlying hu, Result.andThen_ok, hg, check_key hkt d1 d3, MapKept.run_findKey hkt r1, hs, zeroValue_run hti hz]
        simp
      have hgr := grown_setObj W b (.map (l ++ [(⟨ev E ix, z, c⟩ : MapEntry)]).toArray (c + 1))
      unfold vcOpV
      rw [ho]
      show kMpE _ W t (ev E m) (ev E ix) _
      rw [← hmd]
      refine ⟨kVal_do hrun (hkb δ _ _ none (Ex.refl _ _) ?_ (hR.put (by rw [hat]; simp) hb hgr a1 a2 a3 ⟨hfr, _, r3, set_new hh⟩) (by simp))⟩
      simp [dec, decL, hzr δ, goInt]
  · refine ⟨_, h, k9, Grow.refl h, fun F δ W E hR hE rd X kn kb kdd hkn hkb => ?_⟩
    obtain ⟨b, cp, hb, hO⟩ := hR.get hat (by simp)
    obtain ⟨hfr, l, hl, hh⟩ := hO
    have hmd := hmv δ E _ hE hm.1
    simp only [dec, hb, Option.map_some, Option.some.injEq] at hmd
    have hg := MapKept.run_getObj_map (P := P) hh
    obtain ⟨j, en, r1, r2, r3, r4, r5⟩ := hf δ _ l 0 (hkey δ E _ hE hm.2) hl
    rw [Nat.zero_add] at r1
    have hks := keyStays (P := P) (same_self r1) W
    have hj : l.toArray[j]? = some en := by simpa using r2
    have hs := MapKept.run_setObj_map (P := P) (.map (l.toArray.modify j fun e => { e with key := ev E ix }) c) hh
    have hms := modify_same r2 r3
    have hrun : (Instr.mapEntry t (.map (some b)) (ev E ix)).run P W = .ok (.tuple #[en.val, goInt s]) { W with heap := W.heap.setIfInBounds b (.map l.toArray c) } := by
      simp only [Instr.mapEntry, Sem.run_bind, run_underlying hu, Result.andThen_ok, hg, check_key hkt d1 d3, MapKept.run_findKey hkt r1, hj, Option.map_some, Option.getD_some, r3, hks, hs]
      simp [hms, r4]
    have hgr := grown_setObj W b (.map l.toArray c)
    unfold vcOpV
    rw [ho]
    show kMpE _ W t (ev E m) (ev E ix) _
    rw [← hmd]
    refine ⟨kVal_do hrun (hkb δ _ _ none (Ex.refl _ _) ?_ (hR.put (by rw [hat]; simp) hb hgr rfl hat (fun _ _ => rfl) ⟨hfr, _, hl, set_new hh⟩) (by simp))⟩
    simp [dec, decL, r5, goInt]
theorem mpBorn_ok {s : Nat} {val : RV} : ∀ (es : List (RV × RV × Nat)) {κ : List (RV × RV × Nat) → Bool}, mpBorn s val es κ = true → ∃ es', κ es' = true ∧ ∀ δ v l, dec δ val = some v → decE δ es = some l →
    ∃ j, l.findIdx? (fun e => (e.born : Int) == (s : Int)) = some j ∧ decE δ es' = some (l.modify j fun e => { e with val := v })
  | [], κ, h => absurd (show false = true from h) (by decide)
  | (k0, v0, j0) :: es, κ, h => by
    have h : iff (Nat.beq j0 s) (κ ((k0, val, j0) :: es)) (mpBorn s val es fun r => κ ((k0, v0, j0) :: r)) = true := h
    rcases iff_inv h with ⟨e1, g1⟩ | ⟨e1, g1⟩
    · cases Nat.eq_of_beq_eq_true e1
      refine ⟨_, g1, fun δ v l hv hl => ?_⟩
      obtain ⟨x, y, m, q1, q2, q3, rfl⟩ := decE_cons_inv hl
      exact ⟨0, by rw [List.findIdx?_cons, if_pos (beq_self_eq_true _)], decE_cons q1 hv q3⟩
    · obtain ⟨es', g2, g3⟩ := mpBorn_ok es g1
      refine ⟨_, g2, fun δ v l hv hl => ?_⟩
      obtain ⟨x, y, m, q1, q2, q3, rfl⟩ := decE_cons_inv hl
      obtain ⟨j, r1, r2⟩ := g3 δ v m hv q3
      have hne : ¬ (j0 = s) := fun e => by rw [e] at e1; simp at e1
      refine ⟨j + 1, ?_, decE_cons q1 q2 r2⟩
      rw [List.findIdx?_cons, if_neg (fun hh => hne (Int.ofNat_inj.1 (beq_iff_eq.1 (show ((j0 : Int) == (s : Int)) = true from hh)))), r1]
      rfl
theorem oEntS_ok {o : Oper} {t : TypeId} {m st x : Operand} (ho : o.op = .entryStore t m st x) {call e h k kd kp} (hk : oEntS m st x ty call e h k kd kp = true) :
    ∃ i ob ob' h', k undefR h' = true ∧ h.at i = ob ∧ ob ≠ .no ∧ h'.next = h.next ∧ h'.at i = ob' ∧ (∀ j, j ≠ i → h'.at j = h.at j) ∧ SAns P o e i ob ob' := by
  obtain ⟨mv, k1, hmv⟩ := opd_o hk
  obtain ⟨sv, k2, hsv⟩ := opd_o k1
  obtain ⟨v, k3, hv⟩ := opd_o k2
  obtain ⟨i, rfl, k4⟩ := rvMap_inv k3
  obtain ⟨q, z, rfl, k5⟩ := rvInt_inv k4
  obtain ⟨s, rfl, k6⟩ := iNat_inv k5
  obtain ⟨c, es, hat, k7⟩ := obMap_inv k6
  obtain ⟨es', k8, hb'⟩ := mpBorn_ok es k7
  obtain ⟨h', k9, a1, a2, a3⟩ := setO_inv k8
  have hm : m ∈ o.op.operands ∧ st ∈ o.op.operands ∧ x ∈ o.op.operands := by simp [ho, Op.operands]
  refine ⟨i, _, _, h', k9, hat, by simp, a1, a2, a3, fun F δ W E b cp hE hb hO => ?_⟩
  obtain ⟨hf, l, hl, hh⟩ := hO
  have hmd := hmv δ E _ hE hm.1
  simp only [dec, hb, Option.map_some, Option.some.injEq] at hmd
  have hsd := dec_int (hsv δ E _ hE hm.2.1)
  obtain ⟨j, r1, r2⟩ := hb' δ _ l (hv δ E _ hE hm.2.2) hl
  have hg := MapKept.run_getObj_map (P := P) hh
  have hs := MapKept.run_setObj_map (P := P) (.map (l.toArray.modify j fun e => { e with val := ev E x }) c) hh
  have hrun : (Instr.entryStore t (.map (some b)) (ev E st) (ev E x)).run P W = .ok () { W with heap := W.heap.setIfInBounds b (.map (l.modify j fun e => { e with val := ev E x }).toArray c) } := by
    have r1' : l.toArray.findIdx? (fun e => (e.born : Int) == (s : Int)) = some j := by simpa using r1
    rw [hsd]
    simp only [Instr.entryStore, Sem.run_bind, Result.andThen_ok, hg, asInt, asIntOf, Sem.run_pure, r1', hs]
    simp
  refine ⟨_, grown_setObj W b _, ⟨hf, _, r2, set_new hh⟩, Yields.of fun rd X kn kb kdd hkb => ?_⟩
  unfold vcOpV
  rw [ho]
  show kEntS _ W t (ev E m) (ev E st) (ev E x) _
  rw [← hmd]
  exact ⟨kUnit_do hrun hkb⟩
end
end Go.L.Ev
