/- An evaluation of the translation's functions, shown sound: no condition. -/
import Derived.Test.YtnmefofmegfliaaGreatDoorE3
import Derived.Maps.RangeRun
import Derived.Lib.OthersKept
set_option linter.unusedVariables false
set_option linter.unusedSimpArgs false
set_option linter.unusedSectionVars false
namespace Go.L.Ev
open Go Go.RowKit
variable [Ext]
set_option linter.unusedSimpArgs false
set_option linter.unusedVariables false
section
variable {P : Program} {ty : TyT} {fu : FuT}

theorem obIt_inv {h : Hp} {i : Nat} {κ : Nat → Nat → Nat → Bool} (hk : obIt h i κ = true) : ∃ n l p, h.at i = .it n l p ∧ κ n l p = true := by
  unfold obIt at hk
  rw [getK_eq] at hk
  show ∃ n l p, Tr.get .no h.t i = .it n l p ∧ κ n l p = true
  cases ho : Tr.get .no h.t i <;> rw [ho] at hk <;> first | exact ⟨_, _, _, rfl, hk⟩ | simp at hk
theorem obMit_inv {h : Hp} {i : Nat} {κ : Option Nat → Nat → List Nat → Nat → Bool} (hk : obMit h i κ = true) : ∃ m s l t, h.at i = .mit m s l t ∧ κ m s l t = true := by
  unfold obMit at hk
  rw [getK_eq] at hk
  show ∃ m s l t, Tr.get .no h.t i = .mit m s l t ∧ κ m s l t = true
  cases ho : Tr.get .no h.t i <;> rw [ho] at hk <;> first | exact ⟨_, _, _, _, rfl, hk⟩ | simp at hk
theorem oRng_ok (p : Pg P ty fu) {o : Oper} {t : TypeId} {x : Operand} (ho : o.op = .range t x) {call e h k kd kp} (hk : oRng t x ty call e h k kd kp = true) : ∃ r h', k r h' = true ∧ EAns P o e h r h' := by
  obtain ⟨v, k1, hv⟩ := opd_o hk
  obtain ⟨td, hu, k2⟩ := undK_inv p k1
  have hm : x ∈ o.op.operands := by simp [ho, Op.operands]
  rcases iff_inv k2 with ⟨e1, k3⟩ | ⟨e1, k3⟩
  · cases kind3 e1
    obtain ⟨m, n, rfl, hw, k4⟩ := rvStr_inv k3
    obtain ⟨h', k5, a1, a2, a3⟩ := push_inv k4
    refine ⟨_, h', k5, AAns.eff (ob := .it m n 0) (mk := fun N => .ptr N 0) (fun δ W E hE => ?_) a1 a2 a3⟩
    refine ⟨0, .pointer (some ⟨W.heap.size, 0, none⟩), W.iter (strOf m n) 0, World.grownBy_alloc W _ _, by simp [World.iter], fun F δ' hf _ => ⟨hf, World.iter_heap W _ _⟩, fun N δ' hN => by simp [dec, hN], Yields.of fun rd X kn kb kdd hkb => ?_⟩
    unfold vcOpV
    rw [ho]
    show kRng _ W t (ev E x) _
    rw [dec_str hw (hv δ E _ hE hm)]
    exact ⟨kVal_do (run_range_string W t _ hu) hkb⟩
  · obtain ⟨kt, et, rfl, k4⟩ := tdMap_inv k3
    obtain ⟨j, rfl, k5⟩ := rvMap_inv k4
    obtain ⟨c, es, hat, k6⟩ := obMap_inv k5
    obtain ⟨h', k7, a1, a2, a3⟩ := push_inv k6
    refine ⟨_, h', k7, Grow.push a1 a3, fun F δ W E hR hE rd X kn kb kdd hkn hkb => ?_⟩
    obtain ⟨b, cp, hb, hO⟩ := hR.get hat (by simp)
    obtain ⟨hf, l, hl, hh⟩ := hO
    have hmd := hv δ E _ hE hm
    simp only [dec, hb, Option.map_some, Option.some.injEq] at hmd
    have hfn := (hR.fresh h.next (Nat.le_refl _)).1
    have hjn : j ≠ h.next := fun ee => by rw [ee, hfn] at hb; cases hb
    unfold vcOpV
    rw [ho]
    show kRng _ W t (ev E x) _
    rw [← hmd]
    refine ⟨kVal_do (run_range_map W t kt et b l.toArray c hu hh) (hkb (δ.put h.next W.heap.size 0) _ _ none (Ex.put hfn) (by simp [dec, Pl.put_self]) ?_ (by simp))⟩
    refine hR.push (World.grownBy_alloc W _ _) (Nat.le_refl _) a1 a2 a3 ⟨hR.ok.new (Nat.le_refl _), some b, ⟨(b, cp), ?_, rfl⟩, World.alloc_heap_new W _⟩
    simp [Pl.put, hjn, hb]
theorem oNxt_ok {o : Oper} {it : Operand} {s : Bool} (ho : o.op = .next it s) {call e h k kd kp} (hk : oNxt it s ty call e h k kd kp = true) : ∃ r h', k r h' = true ∧ EAns P o e h r h' := by
  obtain ⟨v, k1, hv⟩ := opd_o hk
  obtain ⟨i, off, rfl, k2⟩ := rvPtr_inv k1
  obtain ⟨e0, k3⟩ := iff_t k2
  cases Nat.eq_of_beq_eq_true e0
  have hm : it ∈ o.op.operands := by simp [ho, Op.operands]
  have hov : ∀ δ, dec δ overR = some (.tuple #[.bool false]) := fun δ => by simp [overR, dec, decL]
  -- it stays as it is
  have over : k overR h = true → (∀ F δ W b c, Rel F δ h W → δ i = some (b, c) → ∀ tt, (Instr.next (.pointer (some ⟨b, 0, none⟩)) s tt).run P W = .ok (.tuple #[.bool false]) W) → ∃ r h', k r h' = true ∧ EAns P o e h r h' := by
    intro g1 g2
    refine ⟨_, h, g1, Grow.refl h, fun F δ W E hR hE rd X kn kb kdd hkn hkb => ?_⟩
    have hd := hv δ E _ hE hm
    simp only [dec, Option.map_eq_some_iff] at hd
    obtain ⟨⟨b, c⟩, hb, hd⟩ := hd
    unfold vcOpV
    rw [ho]
    show kNxt _ W (ev E it) s o.type _
    rw [← hd]
    exact ⟨kVal_do (g2 F δ W b c hR hb o.type) (hkb δ _ _ none (Ex.refl _ _) (hov δ) hR (by simp))⟩
  rcases iff_inv k3 with ⟨rfl, k4⟩ | ⟨rfl, k4⟩
  · obtain ⟨m, n, q, hat, k5⟩ := obIt_inv k4
    rcases iff_inv k5 with ⟨e1, k6⟩ | ⟨e1, k6⟩
    · rw [natF_eq] at k6
      obtain ⟨e2, k7⟩ := iff_t k6
      rw [natF_eq] at k7
      obtain ⟨h', k8, a1, a2, a3⟩ := setO_inv k7
      have e1 : q < n := by simpa [Nat.blt_eq] using e1
      have e2 : m / 256 ^ q % 256 < 128 := Nat.le_of_ble_eq_true e2
      refine ⟨_, h', k8, Grow.set (by rw [hat]; simp) a1 a3, fun F δ W E hR hE rd X kn kb kdd hkn hkb => ?_⟩
      have hd := hv δ E _ hE hm
      simp only [dec, Option.map_eq_some_iff] at hd
      obtain ⟨⟨b, c⟩, hb, hd⟩ := hd
      obtain ⟨b', c', hb', hO⟩ := hR.get hat (by simp)
      rw [hb] at hb'; cases hb'
      have hlt : q < (strOf m n).size := by rw [strOf_size]; exact e1
      have hch := strOf_get hlt
      have hrun := Lib.run_next_ascii_at (P := P) W b (strOf m n) q o.type hO.2 hlt (by rw [hch]; exact e2)
      rw [hch] at hrun
      unfold vcOpV
      rw [ho]
      show kNxt _ W (ev E it) true o.type _
      rw [← hd]
      refine ⟨kVal_do hrun (hkb δ _ _ none (Ex.refl _ _) (by simp [dec, decL]; rfl) ?_ (by simp))⟩
      refine hR.put (by rw [hat]; simp) hb ⟨rfl, rfl, rfl, by simp [World.iterAt], fun k hk hne => Lib.iterAt_other W b k _ _ (fun ee => hne (by rw [ee]))⟩ a1 a2 a3 ⟨hO.1, Lib.iterAt_heap W b _ q _ hO.2⟩
    · refine over k6 fun F δ W b c hR hb tt => ?_
      obtain ⟨b', c', hb', hO⟩ := hR.get hat (by simp)
      rw [hb] at hb'; cases hb'
      have e1 : ¬ q < n := fun hh => by rw [show Nat.blt q n = true from Nat.ble_eq_true_of_le hh] at e1; cases e1
      exact Lib.run_next_end_at W b _ q tt hO.2 (by rw [strOf_size]; exact e1)
  · obtain ⟨mm, since, seen, last, hat, k5⟩ := obMit_inv k4
    cases mm with
    | none => exact absurd (show false = true from k5) (by decide)
    | some j =>
      obtain ⟨clock, es, hmp, k6⟩ := obMap_inv (κ := fun clock es => @List.rec (RV × RV × Nat) (fun _ => Bool) (@List.rec Nat (fun _ => Bool) (iff (Nat.ble since last) (k overR h) false) (fun _ _ _ => false) seen)
        (fun en tl _ => @List.rec (RV × RV × Nat) (fun _ => Bool) (iff (Nat.blt en.2.2 since) (iff (Nat.ble since last) (@List.rec Nat (fun _ => Bool) (setO i (.mit (some j) since [en.2.2] clock) h fun h' => k (.tup [.bool true, en.1, en.2.1]) h') (fun s tl _ => iff (Nat.beq s en.2.2) (@List.rec Nat (fun _ => Bool) (k overR h) (fun _ _ _ => false) tl) false) seen) false) false) (fun _ _ _ => false) tl) es) k5
      -- the iterator and its map
      have both : ∀ F δ W b c, Rel F δ h W → δ i = some (b, c) → ∃ bm cm l, δ j = some (bm, cm) ∧ decE δ es = some l ∧ W.heap[b]? = some (.mapIter (some bm) since seen.toArray last) ∧ W.heap[bm]? = some (.map l.toArray clock) ∧ F.free b := by
        intro F δ W b c hR hb
        obtain ⟨b', c', hb', hO⟩ := hR.get hat (by simp)
        rw [hb] at hb'; cases hb'
        obtain ⟨hf, mb, ⟨⟨bm, cm⟩, hj, rfl⟩, hh⟩ := hO
        obtain ⟨b2, c2, hj2, hO2⟩ := hR.get hmp (by simp)
        rw [hj] at hj2; cases hj2
        obtain ⟨_, l, hl, hh2⟩ := hO2
        exact ⟨_, _, l, hj, hl, hh, hh2, hf⟩
      cases es with
      | nil =>
        cases seen with
        | nil =>
          obtain ⟨e1, k7⟩ := iff_t (b := Nat.ble since last) k6
          refine over k7 fun F δ W b c hR hb tt => ?_
          obtain ⟨bm, cm, l, hj, hl, h1, h2, hf⟩ := both F δ W b c hR hb
          simp only [decE, Option.some.injEq] at hl
          subst hl
          rcases run_next_at (P := P) W tt b bm since last _ _ clock h1 h2 (by simp) (Nat.le_of_ble_eq_true e1) with ⟨_, hr⟩ | ⟨en, hen, _⟩
          · exact hr
          · simp [leftOf] at hen
        | cons _ _ => exact absurd (show false = true from k6) (by decide)
      | cons en tl =>
        cases tl with
        | cons _ _ => exact absurd (show false = true from k6) (by decide)
        | nil =>
          obtain ⟨k0, v0, j0⟩ := en
          obtain ⟨e1, k7⟩ := iff_t (b := Nat.blt j0 since) k6
          obtain ⟨e2, k8⟩ := iff_t k7
          have e1 : j0 < since := by simpa [Nat.blt_eq] using e1
          have e2 : since ≤ last := Nat.le_of_ble_eq_true e2
          cases seen with
          | nil =>
            have k8 : (setO i (.mit (some j) since [j0] clock) h fun h' => k (.tup [.bool true, k0, v0]) h') = true := k8
            obtain ⟨h', k9, a1, a2, a3⟩ := setO_inv k8
            refine ⟨_, h', k9, Grow.set (by rw [hat]; simp) a1 a3, fun F δ W E hR hE rd X kn kb kdd hkn hkb => ?_⟩
            have hd := hv δ E _ hE hm
            simp only [dec, Option.map_eq_some_iff] at hd
            obtain ⟨⟨b, c⟩, hb, hd⟩ := hd
            obtain ⟨bm, cm, l, hj, hl, h1, h2, hf⟩ := both F δ W b c hR hb
            obtain ⟨x, y, mm, q1, q2, q3, rfl⟩ := decE_cons_inv hl
            simp only [decE, Option.some.injEq] at q3
            subst q3
            unfold vcOpV
            rw [ho]
            show kNxt _ W (ev E it) false o.type _
            rw [← hd]
            rcases run_next_at (P := P) W o.type b bm since last _ _ clock h1 h2 (by simpa using e1) e2 with ⟨h0, hr⟩ | ⟨en, hen, w1, hw, hr⟩
            · simp [leftOf] at h0
            · have : en = ⟨x, y, j0⟩ := by simpa [leftOf] using hen
              subst this
              refine ⟨kVal_do hr (hkb δ _ _ none (Ex.refl _ _) (by simp [dec, decL, q1, q2]) ?_ (by simp))⟩
              have hg : W.grownBy (ChangeMaps.setBlock w1 b (.mapIter (some bm) since ((#[] : Array Nat).push j0) clock)) (some b) := by
                refine ⟨?_, ?_, ?_, ?_, fun k hk hne => ?_⟩ <;> (rcases hw with rfl | rfl <;> first | rfl | skip)
                · simp [ChangeMaps.setBlock]
                · simp [ChangeMaps.setBlock]
                · have : b ≠ k := fun ee => hne (by rw [ee])
                  simp [ChangeMaps.setBlock, this]
                · have : b ≠ k := fun ee => hne (by rw [ee])
                  simp [ChangeMaps.setBlock, this]
                  rfl
              refine hR.put (by rw [hat]; simp) hb hg a1 a2 a3 ⟨hf, some bm, ⟨_, hj, rfl⟩, ?_⟩
              have hlt : b < W.heap.size := (Array.getElem?_eq_some_iff.1 h1).1
              rcases hw with rfl | rfl <;> simp [ChangeMaps.setBlock, hlt]
          | cons s0 tl =>
            obtain ⟨e3, k9⟩ := iff_t (b := Nat.beq s0 j0) k8
            cases Nat.eq_of_beq_eq_true e3
            cases tl with
            | cons _ _ => exact absurd (show false = true from k9) (by decide)
            | nil =>
              refine over k9 fun F δ W b c hR hb tt => ?_
              obtain ⟨bm, cm, l, hj, hl, h1, h2, hf⟩ := both F δ W b c hR hb
              obtain ⟨x, y, mm, q1, q2, q3, rfl⟩ := decE_cons_inv hl
              simp only [decE, Option.some.injEq] at q3
              subst q3
              rcases run_next_at (P := P) W tt b bm since last _ _ clock h1 h2 (by simpa using e1) e2 with ⟨_, hr⟩ | ⟨en, hen, _⟩
              · exact hr
              · simp [leftOf] at hen
theorem oEnt_ok {o : Oper} {it : Operand} (ho : o.op = .entry it) {call e h k kd kp} (hk : oEnt it ty call e h k kd kp = true) : ∃ r, k r h = true ∧ QAns P o e h r := by
  obtain ⟨v, k1, hv⟩ := opd_o hk
  obtain ⟨i, off, rfl, k2⟩ := rvPtr_inv k1
  obtain ⟨e0, k3⟩ := iff_t k2
  cases Nat.eq_of_beq_eq_true e0
  have hm : it ∈ o.op.operands := by simp [ho, Op.operands]
  obtain ⟨mm, since, seen, last, hat, k5⟩ := obMit_inv k3
  cases mm with
  | none => exact absurd (show false = true from k5) (by decide)
  | some j =>
    obtain ⟨clock, es, hmp, k6⟩ := obMap_inv (κ := fun clock es => iff (Nat.beq clock last)
  (@List.rec Nat (fun _ => Bool) false (fun s tl _ => @List.rec Nat (fun _ => Bool) (@List.rec (RV × RV × Nat) (fun _ => Bool) false (fun en _ ih => iff (Nat.beq en.2.2 s) (k (.tup [en.1, en.2.1]) h) ih) es) (fun _ _ _ => false) tl) seen) false) k5
    obtain ⟨e1, k7⟩ := iff_t k6
    cases Nat.eq_of_beq_eq_true e1
    cases seen with
    | nil => exact absurd (show false = true from k7) (by decide)
    | cons s tl =>
      cases tl with
      | cons _ _ => exact absurd (show false = true from k7) (by decide)
      | nil =>
        have k8 : (@List.rec (RV × RV × Nat) (fun _ => Bool) false (fun en _ ih => iff (Nat.beq en.2.2 s) (k (.tup [en.1, en.2.1]) h) ih) es : Bool) = true := k7
        obtain ⟨r, k9, hfind⟩ : ∃ r, k r h = true ∧ ∀ δ l, decE δ es = some l → ∃ en, l.find? (·.born == s) = some en ∧ dec δ r = some (.tuple #[en.key, en.val]) := by
          clear hmp k7 k6 k5
          induction es with
          | nil => exact absurd (show false = true from k8) (by decide)
          | cons en es ih =>
            obtain ⟨k0, v0, j0⟩ := en
            have k8 : iff (Nat.beq j0 s) (k (.tup [k0, v0]) h) (@List.rec (RV × RV × Nat) (fun _ => Bool) false (fun en _ ih => iff (Nat.beq en.2.2 s) (k (.tup [en.1, en.2.1]) h) ih) es) = true := k8
            rcases iff_inv k8 with ⟨e2, g1⟩ | ⟨e2, g1⟩
            · cases Nat.eq_of_beq_eq_true e2
              refine ⟨_, g1, fun δ l hl => ?_⟩
              obtain ⟨x, y, m, q1, q2, q3, rfl⟩ := decE_cons_inv hl
              exact ⟨_, List.find?_cons_of_pos (by simp), by simp [dec, decL, q1, q2]⟩
            · obtain ⟨r, g2, g3⟩ := ih g1
              refine ⟨r, g2, fun δ l hl => ?_⟩
              obtain ⟨x, y, m, q1, q2, q3, rfl⟩ := decE_cons_inv hl
              obtain ⟨en, r1, r2⟩ := g3 δ m q3
              have hne : (j0 == s) = false := by
                have : ¬ j0 = s := fun ee => by rw [ee] at e2; simp at e2
                simpa using this
              exact ⟨en, by simp [hne, r1], r2⟩
        refine ⟨r, k9, fun F δ W E hR hE => ?_⟩
        have hd := hv δ E _ hE hm
        simp only [dec, Option.map_eq_some_iff] at hd
        obtain ⟨⟨b, c⟩, hb, hd⟩ := hd
        obtain ⟨b', c', hb', hO⟩ := hR.get hat (by simp)
        rw [hb] at hb'; cases hb'
        obtain ⟨hf, mb, ⟨⟨bm, cm⟩, hj, rfl⟩, hh⟩ := hO
        obtain ⟨b2, c2, hj2, hO2⟩ := hR.get hmp (by simp)
        rw [hj] at hj2; cases hj2
        obtain ⟨_, l, hl, hh2⟩ := hO2
        obtain ⟨en, r1, r2⟩ := hfind δ l hl
        refine ⟨_, r2, fun q => Yields.of fun rd X kn kb kdd hkb => ?_⟩
        unfold vcOpV
        rw [ho]
        show kEnt _ W (ev E it) _
        rw [← hd]
        have r1' : l.toArray.find? (·.born == s) = some en := by simpa using r1
        refine ⟨kSem_look (v := .tuple #[en.key, en.val]) (fun n => ?_) hkb⟩
        have hh' : (W.drewN n).heap[b]? = some (.mapIter (some bm) since [s].toArray last) := by simpa using hh
        have hh2' : (W.drewN n).heap[bm]? = some (.map l.toArray last) := by simpa using hh2
        have hs : [s].toArray.back? = some s := by simp
        simp only [Instr.entry, getObj, Sem.run_bind, Sem.run, hh', hh2', Result.andThen, hs, bne_self_eq_false, Bool.false_eq_true, if_false, r1']
        rfl
end
end Go.L.Ev
namespace Go.L.Ev
open Go Go.RowKit
variable [Ext]
set_option linter.unusedSimpArgs false
set_option linter.unusedVariables false
section
variable {P : Program} {ty : TyT} {fu : FuT}

/-! ### Calls -/
/-- A function's answer. -/
def FnR (P : Program) (f : Nat) (args : List RV) (h : Hp) (r : RV) (h' : Hp) : Prop :=
  Grow h h' ∧ (∀ args w, (callFunc f args).run P w = .ok (.enter f args) w) ∧ ∀ F δ W vs, Rel F δ h W → decL δ args = some vs →
    Calls P f vs.toArray W fun en W' => ∃ δ' x, Ex h δ δ' ∧ dec δ' r = some x ∧ en = .returned x ∧ Rel F δ' h' W'
/-- A function's panic. -/
def FnP (P : Program) (f : Nat) (args : List RV) (h : Hp) (r : RV) (h' : Hp) : Prop :=
  Grow h h' ∧ (∀ args w, (callFunc f args).run P w = .ok (.enter f args) w) ∧ ∀ F δ W vs, Rel F δ h W → decL δ args = some vs →
    Calls P f vs.toArray W fun en W' => ∃ δ' x, Ex h δ δ' ∧ dec δ' r = some x ∧ en = .panicked [{ v := x, recovered := false }] ∧ Rel F δ' h' W'
/-- A yield's answer. -/
def YdR (P : Program) (l : Nat) (args : List RV) (h : Hp) (r : RV) (h' : Hp) : Prop :=
  Grow h h' ∧ ∀ F δ W vs b c, Rel F δ h W → δ l = some (b, c) → decL δ args = some vs →
    YieldC P b vs.toArray W fun en W' => ∃ δ' x, Ex h δ δ' ∧ dec δ' r = some x ∧ en = .returned x ∧ Rel F δ' h' W'
def YdP (P : Program) (l : Nat) (args : List RV) (h : Hp) (r : RV) (h' : Hp) : Prop :=
  Grow h h' ∧ ∀ F δ W vs b c, Rel F δ h W → δ l = some (b, c) → decL δ args = some vs →
    YieldC P b vs.toArray W fun en W' => ∃ δ' x, Ex h δ δ' ∧ dec δ' r = some x ∧ en = .panicked [{ v := x, recovered := false }] ∧ Rel F δ' h' W'
structure CallS (P : Program) (call : CallT) : Prop where
  fn : ∀ f args h k kp, call false f args h k kp = true → (∃ r h', k r h' = true ∧ FnR P f args h r h') ∨ ∃ r h', kp r h' = true ∧ FnP P f args h r h'
  yd : ∀ l args h k kp, call true l args h k kp = true → (∃ r h', k r h' = true ∧ YdR P l args h r h') ∨ ∃ r h', kp r h' = true ∧ YdP P l args h r h'

/-- An operation's panic. -/
def PAns (P : Program) (o : Oper) (e : VE) (h : Hp) (r : RV) (h' : Hp) : Prop :=
  Grow h h' ∧ ∀ F δ W E, Rel F δ h W → EnvO δ e E o.op.operands → ∀ rd X kn kb kdd, (∀ δ' y W', Ex h δ δ' → dec δ' r = some y → Rel F δ' h' W' → X [{ v := y, recovered := false }] W') → vcOpV P rd false X o kn E W kb kdd
/-- A deferred call. -/
def DAns (P : Program) (o : Oper) (e : VE) (dv : DV) : Prop :=
  ∃ f args, dv = .fn f args ∧ ∀ δ W E, EnvO δ e E o.op.operands → ∃ vs, decL δ args = some vs ∧ ∀ X kn kb kdd, kdd { target := .fn (.func f) #[], args := vs.toArray } W → vcOpV P none false X o kn E W kb kdd

theorem kCallV_f {X : Chain → World → Prop} {w : World} {f : FuncId} {args fst caps : Array Value} {k : Value → World → Prop} (hc : ∀ args w, (callFunc f args).run P w = .ok (.enter f args) w)
    (h : Calls P f (fst ++ args ++ caps) w (after k X)) : kCallV ⟨P, X, false⟩ w (.func (.func f) fst caps) args k := ⟨by
  show kNext _ _ _
  have : (do let d ← Deferred.ofValue (.func (.func f) fst caps) args; invoke d.target d.args : Sem Next).run P w = .ok (.enter f (fst ++ args ++ caps)) w := by
    simp [Deferred.ofValue, invoke, hc]
  rw [this]; exact h⟩
theorem kCallV_l {X : Chain → World → Prop} {w : World} {l : Nat} {args : Array Value} {R : Ending → World → Prop} {k : Value → World → Prop} (h : YieldC P l args w R) (hk : ∀ e w', R e w' → after k X e w') :
    kCallV ⟨P, X, false⟩ w (.func (.yield l) #[] #[]) args k := by
  obtain ⟨fn, tmps, asn, body, hrun, hr⟩ := h
  refine ⟨?_⟩
  show kNext _ _ _
  have : (do let d ← Deferred.ofValue (.func (.yield l) #[] #[]) args; invoke d.target d.args : Sem Next).run P w = .ok (.round l fn tmps asn body) w := by
    simp [Deferred.ofValue, invoke, hrun]
  rw [this]
  exact hr.mono hk
theorem dec_fn {δ : Pl} {f : Fn} {a b : List RV} {x : Value} (h : dec δ (.fn f a b) = some x) : ∃ y z, decL δ a = some y ∧ decL δ b = some z ∧ x = .func f y.toArray z.toArray := by
  simp only [dec] at h
  cases ha : decL δ a with
  | none => simp [ha] at h
  | some y =>
    cases hb : decL δ b with
    | none => simp [ha, hb] at h
    | some z => rw [ha, hb] at h; exact ⟨y, z, rfl, rfl, (Option.some.inj h).symm⟩
/-- A call of a value: of a function's, of a yield. -/
theorem callV_inv {call : CallT} (hc : CallS P call) {v : RV} {args : List RV} {h : Hp} {k : K} {kp : KP} (hk : callV call v args h k kp = true) :
    (∃ f a b, v = .fn (.func f) a b ∧ ((∃ r h', k r h' = true ∧ FnR P f (a ++ (args ++ b)) h r h') ∨ ∃ r h', kp r h' = true ∧ FnP P f (a ++ (args ++ b)) h r h')) ∨
    (∃ l, v = .yld l ∧ ((∃ r h', k r h' = true ∧ YdR P l args h r h') ∨ ∃ r h', kp r h' = true ∧ YdP P l args h r h')) := by
  cases v with
  | fn f a b =>
    cases f with
    | func f =>
      have hk : (appK args b fun r => appK a r fun r => call false f r h k kp) = true := hk
      rw [appK_eq, appK_eq] at hk
      exact .inl ⟨f, a, b, rfl, hc.fn _ _ _ _ _ hk⟩
    | _ => exact absurd (show false = true from hk) (by decide)
  | yld l => exact .inr ⟨l, rfl, hc.yd _ _ _ _ _ hk⟩
  | _ => exact absurd (show false = true from hk) (by decide)
theorem callV_val {call : CallT} (hc : CallS P call) {v : RV} {args : List RV} {h : Hp} {k : K} {kp : KP} (hk : callV call v args h k kp = true) :
    (∃ r h', k r h' = true ∧ Grow h h' ∧ ∀ F δ W x vs X kk, Rel F δ h W → dec δ v = some x → decL δ args = some vs → (∀ δ' y W', Ex h δ δ' → dec δ' r = some y → Rel F δ' h' W' → kk y W') → kCallV ⟨P, X, false⟩ W x vs.toArray kk) ∨
    (∃ r h', kp r h' = true ∧ Grow h h' ∧ ∀ F δ W x vs X kk, Rel F δ h W → dec δ v = some x → decL δ args = some vs → (∀ δ' y W', Ex h δ δ' → dec δ' r = some y → Rel F δ' h' W' → X [{ v := y, recovered := false }] W') → kCallV ⟨P, X, false⟩ W x vs.toArray kk) := by
  rcases callV_inv hc hk with ⟨f, a, b, rfl, h1 | h1⟩ | ⟨l, rfl, h1 | h1⟩
  · obtain ⟨r, h', hr, hg, hcf, hF⟩ := h1
    refine .inl ⟨r, h', hr, hg, fun F δ W x vs X kk hR hx hvs hkk => ?_⟩
    obtain ⟨y, z, hy, hz, rfl⟩ := dec_fn hx
    refine kCallV_f hcf ?_
    have := hF F δ W _ hR (decL_append hy (decL_append hvs hz))
    have e1 : (y ++ (vs ++ z)).toArray = y.toArray ++ vs.toArray ++ z.toArray := by simp
    rw [e1] at this
    refine this.mono ?_
    rintro en W' ⟨δ', u, q1, q2, rfl, q3⟩
    exact hkk δ' u W' q1 q2 q3
  · obtain ⟨r, h', hr, hg, hcf, hF⟩ := h1
    refine .inr ⟨r, h', hr, hg, fun F δ W x vs X kk hR hx hvs hkk => ?_⟩
    obtain ⟨y, z, hy, hz, rfl⟩ := dec_fn hx
    refine kCallV_f hcf ?_
    have := hF F δ W _ hR (decL_append hy (decL_append hvs hz))
    have e1 : (y ++ (vs ++ z)).toArray = y.toArray ++ vs.toArray ++ z.toArray := by simp
    rw [e1] at this
    refine this.mono ?_
    rintro en W' ⟨δ', u, q1, q2, rfl, q3⟩
    exact hkk δ' u W' q1 q2 q3
  · obtain ⟨r, h', hr, hg, hF⟩ := h1
    refine .inl ⟨r, h', hr, hg, fun F δ W x vs X kk hR hx hvs hkk => ?_⟩
    simp only [dec, Option.map_eq_some_iff] at hx
    obtain ⟨⟨b, c⟩, hb, rfl⟩ := hx
    refine kCallV_l (hF F δ W vs b c hR hb hvs) ?_
    rintro en W' ⟨δ', u, q1, q2, rfl, q3⟩
    exact hkk δ' u W' q1 q2 q3
  · obtain ⟨r, h', hr, hg, hF⟩ := h1
    refine .inr ⟨r, h', hr, hg, fun F δ W x vs X kk hR hx hvs hkk => ?_⟩
    simp only [dec, Option.map_eq_some_iff] at hx
    obtain ⟨⟨b, c⟩, hb, rfl⟩ := hx
    refine kCallV_l (hF F δ W vs b c hR hb hvs) ?_
    rintro en W' ⟨δ', u, q1, q2, rfl, q3⟩
    exact hkk δ' u W' q1 q2 q3
end
end Go.L.Ev
namespace Go.L.Ev
open Go Go.RowKit
variable [Ext]
set_option linter.unusedSimpArgs false
set_option linter.unusedVariables false
section
variable {P : Program} {ty : TyT} {fu : FuT}

theorem oLen_ok (p : Pg P ty fu) {o : Oper} {args : Array Operand} {ats : Array TypeId} (ho : o.op = .call { callee := .builtin .len, args := args, argTypes := ats }) {e : VE} {h : Hp} {k : K}
    (hk : (opds args.toList e fun vs => bltLen ty ats vs h k) = true) : ∃ r, k r h = true ∧ QAns P o e h r := by
  obtain ⟨vs, h1, hvs⟩ := opds_o hk
  obtain ⟨r, h2, hr⟩ := bltLen_ok p (tr := o.type) h1
  have hm : ∀ x ∈ args.toList, x ∈ o.op.operands := fun x hx => by simp [ho, Op.operands, Call.operands]; first | exact .inr (by simpa using hx) | exact (by simpa using hx)
  refine ⟨r, h2, fun F δ W E hR hE => ?_⟩
  have hd := hvs δ E _ hE hm
  obtain ⟨v, hv, _⟩ := hr F δ W _ (args.map isCst) hR hd
  refine ⟨v, hv, fun q => Yields.of fun rd X kn kb kdd hkb => ?_⟩
  unfold vcOpV
  rw [ho]
  refine ⟨kSem_look (v := v) (fun n => ?_) hkb⟩
  obtain ⟨v', hv', hrun⟩ := hr F δ (W.drewN n) _ (args.map isCst) (hR.drewN n) hd
  rw [hv] at hv'; cases hv'
  have e1 : (args.toList.map (ev E)).toArray = args.map (ev E) := by apply Array.toList_inj.1; simp
  rw [e1] at hrun
  exact hrun
theorem minmax_ok {o : Oper} {b : Builtin} {args : Array Operand} {ats : Array TypeId} (ho : o.op = .call { callee := .builtin b, args := args, argTypes := ats }) (hb : b = .min ∨ b = .max) {e : VE} {h : Hp} {k : K}
    (hk : (opds args.toList e fun vs => bltR b ty ats vs h k) = true) : ∃ r, k r h = true ∧ QAns P o e h r := by
  obtain ⟨vs, h1, hvs⟩ := opds_o hk
  have hm : ∀ x ∈ args.toList, x ∈ o.op.operands := fun x hx => by simp [ho, Op.operands, Call.operands]; first | exact .inr (by simpa using hx) | exact (by simpa using hx)
  have key : ∃ r, k r h = true ∧ ∀ δ us cs, decL δ vs = some us → ∃ v, dec δ r = some v ∧ ∀ W, (builtin b ats o.type cs us.toArray).run P W = .ok (.value v) W := by
    rcases hb with rfl | rfl
    · have h1 : bltMin ty ats vs h k = true := h1
      obtain ⟨hl, h0⟩ := iff_t h1
      obtain ⟨x, hx, h1⟩ := nthK_inv h0
      obtain ⟨y, hy, h2⟩ := nthK_inv h1
      obtain ⟨j, a, rfl, h3⟩ := rvInt_inv h2
      obtain ⟨l, b, rfl, h4⟩ := rvInt_inv h3
      obtain ⟨e1, h5⟩ := iff_t h4
      cases ikEq_inv e1
      have hargs := two (lenIs_inv hl) hx hy
      subst hargs
      have fin : ∀ z, k (.int j z) h = true → z = (if b < a then b else a) → ∃ r, k r h = true ∧ ∀ δ us cs, decL δ [.int j a, .int j b] = some us → ∃ v, dec δ r = some v ∧ ∀ W, (builtin .min ats o.type cs us.toArray).run P W = .ok (.value v) W := by
        intro z hz hzz
        refine ⟨_, hz, fun δ us cs hus => ?_⟩
        have : us = [.int j a, .int j b] := by simpa [decL, dec] using hus.symm
        subst this
        exact ⟨.int j z, by simp only [dec], fun W => by simp [builtin, Builtin.min_, Builtin.min2, hzz]⟩
      rcases iff_inv h5 with ⟨e2, h6⟩ | ⟨e2, h6⟩
      · rw [iLt_eq] at e2
        exact fin b h6 (by rw [if_pos (by simpa using e2)])
      · rw [iLt_eq] at e2
        exact fin a h6 (by rw [if_neg (by simpa using e2)])
    · have h1 : bltMax ty ats vs h k = true := h1
      obtain ⟨hl, h0⟩ := iff_t h1
      obtain ⟨x, hx, h1⟩ := nthK_inv h0
      obtain ⟨y, hy, h2⟩ := nthK_inv h1
      obtain ⟨j, a, rfl, h3⟩ := rvInt_inv h2
      obtain ⟨l, b, rfl, h4⟩ := rvInt_inv h3
      obtain ⟨e1, h5⟩ := iff_t h4
      cases ikEq_inv e1
      have hargs := two (lenIs_inv hl) hx hy
      subst hargs
      have fin : ∀ z, k (.int j z) h = true → z = (if a < b then b else a) → ∃ r, k r h = true ∧ ∀ δ us cs, decL δ [.int j a, .int j b] = some us → ∃ v, dec δ r = some v ∧ ∀ W, (builtin .max ats o.type cs us.toArray).run P W = .ok (.value v) W := by
        intro z hz hzz
        refine ⟨_, hz, fun δ us cs hus => ?_⟩
        have : us = [.int j a, .int j b] := by simpa [decL, dec] using hus.symm
        subst this
        exact ⟨.int j z, by simp only [dec], fun W => by simp [builtin, Builtin.max_, Builtin.max2, hzz]⟩
      rcases iff_inv h5 with ⟨e2, h6⟩ | ⟨e2, h6⟩
      · rw [iLt_eq] at e2
        exact fin b h6 (by rw [if_pos (by simpa using e2)])
      · rw [iLt_eq] at e2
        exact fin a h6 (by rw [if_neg (by simpa using e2)])
  obtain ⟨r, h2, hr⟩ := key
  refine ⟨r, h2, fun F δ W E hR hE => ?_⟩
  obtain ⟨v, hv, hrun⟩ := hr δ _ (args.map isCst) (hvs δ E _ hE hm)
  refine ⟨v, hv, fun q => Yields.of fun rd X kn kb kdd hkb => ?_⟩
  unfold vcOpV
  rw [ho]
  refine ⟨kSem_look (v := v) (fun n => ?_) hkb⟩
  have e1 : (args.toList.map (ev E)).toArray = args.map (ev E) := by apply Array.toList_inj.1; simp
  rw [e1] at hrun
  exact hrun _
theorem blt_eff {o : Oper} {b : Builtin} {args : Array Operand} {ats : Array TypeId} (ho : o.op = .call { callee := .builtin b, args := args, argTypes := ats }) {e : VE} {h h' : Hp} {r : RV} {vs : List RV}
    (hvs : ∀ δ E xs, EnvO δ e E xs → (∀ x ∈ args.toList, x ∈ xs) → decL δ vs = some (args.toList.map (ev E))) (hB : BAns P b ats o.type vs h r h') : EAns P o e h r h' := by
  have hm : ∀ x ∈ args.toList, x ∈ o.op.operands := fun x hx => by simp [ho, Op.operands, Call.operands]; first | exact .inr (by simpa using hx) | exact (by simpa using hx)
  refine ⟨hB.1, fun F δ W E hR hE rd X kn kb kdd hkn hkb => ?_⟩
  obtain ⟨v, W', δ', hrun, q1, q2, q3⟩ := hB.2 F δ W _ (args.map isCst) hR (hvs δ E _ hE hm)
  have e1 : (args.toList.map (ev E)).toArray = args.map (ev E) := by apply Array.toList_inj.1; simp
  rw [e1] at hrun
  unfold vcOpV
  rw [ho]
  refine ⟨?_⟩
  show kNext _ _ _
  rw [hrun]
  exact hkb δ' v W' none q1 q2 q3 (by simp)
theorem oCall_ok (p : Pg P ty fu) {call : CallT} (hc : CallS P call) {o : Oper} {c : Call} (ho : o.op = .call c) {e h k kd kp} (hk : oCall c ty call e h k kd kp = true) :
    (∃ r h', k r h' = true ∧ EAns P o e h r h') ∨ ∃ r h', kp r h' = true ∧ PAns P o e h r h' := by
  obtain ⟨cal, args, ats⟩ := c
  cases cal with
  | builtin b =>
    have hk : (opds args.toList e fun vs => bltR b ty ats vs h k) = true := hk
    refine .inl ?_
    cases b with
    | append =>
      obtain ⟨vs, h1, hvs⟩ := opds_o hk
      obtain ⟨r, h', h2, hB⟩ := bltApp_ok p (tr := o.type) h1
      exact ⟨r, h', h2, blt_eff ho hvs hB⟩
    | clear =>
      obtain ⟨vs, h1, hvs⟩ := opds_o hk
      obtain ⟨r, h', h2, hB⟩ := bltClr_ok p (tr := o.type) h1
      exact ⟨r, h', h2, blt_eff ho hvs hB⟩
    | len =>
      obtain ⟨r, h1, h2⟩ := oLen_ok p ho hk
      exact ⟨r, h, h1, h2.eff⟩
    | min =>
      obtain ⟨r, h1, h2⟩ := minmax_ok ho (.inl rfl) hk
      exact ⟨r, h, h1, h2.eff⟩
    | max =>
      obtain ⟨r, h1, h2⟩ := minmax_ok ho (.inr rfl) hk
      exact ⟨r, h, h1, h2.eff⟩
    | _ => obtain ⟨vs, h1, _⟩ := opds_o hk; exact absurd (show false = true from h1) (by decide)
  | invoke _ _ => obtain ⟨vs, h1, _⟩ := opds_o hk; exact absurd (show false = true from h1) (by decide)
  | value v =>
    obtain ⟨vs, h1, hvs⟩ := opds_o hk
    have hm : ∀ x ∈ args.toList, x ∈ o.op.operands := fun x hx => by simp [ho, Op.operands, Call.operands]; first | exact .inr (by simpa using hx) | exact (by simpa using hx)
    have e1 : ∀ E, (args.toList.map (ev E)).toArray = args.map (ev E) := fun E => by apply Array.toList_inj.1; simp
    cases v with
    | func f =>
      have h1 : call false f vs h k kp = true := h1
      rcases hc.fn _ _ _ _ _ h1 with ⟨r, h', h2, hg, hcf, hF⟩ | ⟨r, h', h2, hg, hcf, hF⟩
      · refine .inl ⟨r, h', h2, call_eff ho hcf hg fun F δ W E hR hE => ?_⟩
        have := hF F δ W _ hR (hvs δ E _ hE hm)
        rw [e1] at this
        exact this
      · refine .inr ⟨r, h', h2, hg, fun F δ W E hR hE rd X kn kb kdd hX => ?_⟩
        have := hF F δ W _ hR (hvs δ E _ hE hm)
        rw [e1] at this
        unfold vcOpV
        rw [ho]
        refine kCall_of (hcf _ _) this ?_
        rintro en W' ⟨δ', y, q1, q2, rfl, q3⟩
        exact hX δ' y W' q1 q2 q3
    | tmp t =>
      have h1 : (e.getK undefR t fun v => callV call v vs h k kp) = true := h1
      rw [getK_eq] at h1
      have ht : Operand.tmp t ∈ o.op.operands := by simp [ho, Op.operands, Call.operands]
      rcases callV_val hc h1 with ⟨r, h', h2, hg, hF⟩ | ⟨r, h', h2, hg, hF⟩
      · refine .inl ⟨r, h', h2, hg, fun F δ W E hR hE rd X kn kb kdd hkn hkb => ?_⟩
        unfold vcOpV
        rw [ho]
        show kCallV _ W (E t) (args.map (ev E)) _
        rw [← e1]
        exact hF F δ W _ _ X _ hR (hE t ht) (hvs δ E _ hE hm) fun δ' y W' q1 q2 q3 => hkb δ' y W' none q1 q2 q3 (by simp)
      · refine .inr ⟨r, h', h2, hg, fun F δ W E hR hE rd X kn kb kdd hX => ?_⟩
        unfold vcOpV
        rw [ho]
        show kCallV _ W (E t) (args.map (ev E)) _
        rw [← e1]
        exact hF F δ W _ _ X _ hR (hE t ht) (hvs δ E _ hE hm) hX
    | const _ => exact absurd (show false = true from h1) (by decide)
    | global _ => exact absurd (show false = true from h1) (by decide)
theorem oDefer_ok {o : Oper} {c : Call} (ho : o.op = .defer c) {call e h k kd kp} (hk : oDefer c ty call e h k kd kp = true) : ∃ dv, kd dv = true ∧ DAns P o e dv := by
  obtain ⟨cal, args, ats⟩ := c
  obtain ⟨vs, h1, hvs⟩ := opds_o hk
  have hm : ∀ x ∈ args.toList, x ∈ o.op.operands := fun x hx => by simp [ho, Op.operands, Call.operands]; first | exact .inr (by simpa using hx) | exact (by simpa using hx)
  cases cal with
  | builtin _ => exact absurd (show false = true from h1) (by decide)
  | invoke _ _ => exact absurd (show false = true from h1) (by decide)
  | value v =>
    cases v with
    | func f =>
      refine ⟨_, h1, f, vs, rfl, fun δ W E hE => ⟨_, hvs δ E _ hE hm, fun X kn kb kdd hkd => ?_⟩⟩
      unfold vcOpV
      rw [ho]
      have e1 : (args.toList.map (ev E)).toArray = args.map (ev E) := by apply Array.toList_inj.1; simp
      rw [e1] at hkd
      exact hkd
    | tmp _ => exact absurd (show false = true from h1) (by decide)
    | const _ => exact absurd (show false = true from h1) (by decide)
    | global _ => exact absurd (show false = true from h1) (by decide)
end
end Go.L.Ev
namespace Go.L.Ev
open Go Go.RowKit
variable [Ext]
set_option linter.unusedSimpArgs false
set_option linter.unusedVariables false
section
variable {P : Program} {ty : TyT} {fu : FuT}

/-- Every operation. -/
theorem evOp_ok (p : Pg P ty fu) {call : CallT} (hc : CallS P call) {o : Oper} {e h k kd kp} (hk : evOp o.op ty call e h k kd kp = true) :
    (∃ r h', k r h' = true ∧ EAns P o e h r h') ∨ (∃ dv, kd dv = true ∧ DAns P o e dv) ∨ ∃ r h', kp r h' = true ∧ PAns P o e h r h' := by
  have q : (∃ r, k r h = true ∧ QAns P o e h r) → (∃ r h', k r h' = true ∧ EAns P o e h r h') ∨ (∃ dv, kd dv = true ∧ DAns P o e dv) ∨ ∃ r h', kp r h' = true ∧ PAns P o e h r h' :=
    fun ⟨r, h1, h2⟩ => .inl ⟨r, h, h1, h2.eff⟩
  have s : (∃ i ob ob' h', k undefR h' = true ∧ h.at i = ob ∧ ob ≠ .no ∧ h'.next = h.next ∧ h'.at i = ob' ∧ (∀ j, j ≠ i → h'.at j = h.at j) ∧ SAns P o e i ob ob') → (∃ r h', k r h' = true ∧ EAns P o e h r h') ∨ (∃ dv, kd dv = true ∧ DAns P o e dv) ∨ ∃ r h', kp r h' = true ∧ PAns P o e h r h' :=
    fun ⟨i, ob, ob', h', h1, h2, h3, h4, h5, h6, h7⟩ => .inl ⟨_, h', h1, h7.eff h2 h3 h4 h5 h6⟩
  have no : ∀ {x : Bool}, x = true → (x = false) → (∃ r h', k r h' = true ∧ EAns P o e h r h') ∨ (∃ dv, kd dv = true ∧ DAns P o e dv) ∨ ∃ r h', kp r h' = true ∧ PAns P o e h r h' := fun h1 h2 => by rw [h2] at h1; cases h1
  cases hop : o.op with
  | move x => rw [hop] at hk; exact q (oMove_ok (ty := ty) (call := call) (kd := kd) (kp := kp) (.inl hop) hk)
  | assign x => rw [hop] at hk; exact q (oMove_ok (ty := ty) (call := call) (kd := kd) (kp := kp) (.inr hop) hk)
  | pick c a b => rw [hop] at hk; exact q (oPick_ok (ty := ty) (call := call) (kd := kd) (kp := kp) hop hk)
  | alloc t => rw [hop] at hk; obtain ⟨ob, h', h1, h2, h3, h4, h5⟩ := oAlloc_ok (ty := ty) (call := call) (kd := kd) (kp := kp) p hop hk; exact .inl ⟨_, h', h1, h5.eff h2 h3 h4⟩
  | box t x => rw [hop] at hk; obtain ⟨ob, h', h1, h2, h3, h4, h5⟩ := oBox_ok (ty := ty) (call := call) (kd := kd) (kp := kp) hop hk; exact .inl ⟨_, h', h1, h5.eff h2 h3 h4⟩
  | build t ps => rw [hop] at hk; exact q (oBuild_ok (ty := ty) (call := call) (kd := kd) (kp := kp) p hop hk)
  | buildSlice t n ps => rw [hop] at hk; obtain ⟨ob, h', h1, h2, h3, h4, h5⟩ := oBuildSl_ok (ty := ty) (call := call) (kd := kd) (kp := kp) p hop hk; exact .inl ⟨_, h', h1, h5.eff h2 h3 h4⟩
  | insert t m i x => rw [hop] at hk; exact s (oUpd_ok (ty := ty) (call := call) (kd := kd) (kp := kp) p (.inr hop) hk)
  | load t a => rw [hop] at hk; exact q (oLoad_ok (ty := ty) (call := call) (kd := kd) (kp := kp) p hop hk)
  | store t a x =>
    rw [hop] at hk
    obtain ⟨i, off, ob', h', h1, h2, h3, h4, h5, h6, _⟩ := oStore_ok (ty := ty) (call := call) (kd := kd) (kp := kp) p hop hk
    exact s ⟨i, _, ob', h', h1, rfl, h2, h3, h4, h5, h6⟩
  | nilCheck x => rw [hop] at hk; exact q (oNil_ok (ty := ty) (call := call) (kd := kd) (kp := kp) hop hk)
  | binOp op t x y u => rw [hop] at hk; exact q (oBin_ok (ty := ty) (call := call) (kd := kd) (kp := kp) p hop hk)
  | unOp op t x => rw [hop] at hk; exact q (oUn_ok (ty := ty) (call := call) (kd := kd) (kp := kp) hop hk)
  | convert a b x =>
    rw [hop] at hk
    rcases oConv_ok (ty := ty) (call := call) (kd := kd) (kp := kp) p hop hk with h1 | ⟨_, ob, n, h', h1, h2, h3, h4, h5⟩
    · exact q h1
    · exact .inl ⟨_, h', h1, h5.eff h2 h3 h4⟩
  | makeInterface t x => rw [hop] at hk; exact q (oMkI_ok (ty := ty) (call := call) (kd := kd) (kp := kp) p hop hk)
  | makeFunc fn a b => rw [hop] at hk; exact q (oMkF_ok (ty := ty) (call := call) (kd := kd) (kp := kp) hop hk)
  | makeMap t r => rw [hop] at hk; obtain ⟨ob, h', h1, h2, h3, h4, h5⟩ := oMkMap_ok (ty := ty) (call := call) (kd := kd) (kp := kp) hop hk; exact .inl ⟨_, h', h1, h5.eff h2 h3 h4⟩
  | makeSlice t l c => rw [hop] at hk; obtain ⟨ob, n, h', h1, h2, h3, h4, h5⟩ := oMkSl_ok (ty := ty) (call := call) (kd := kd) (kp := kp) p hop hk; exact .inl ⟨_, h', h1, h5.eff h2 h3 h4⟩
  | slice t x lo hi mx => rw [hop] at hk; exact q (oSl_ok (ty := ty) (call := call) (kd := kd) (kp := kp) p hop hk)
  | fieldAddr a x f => rw [hop] at hk; exact q (oFa_ok (ty := ty) (call := call) (kd := kd) (kp := kp) p hop hk)
  | field a x f => rw [hop] at hk; exact q (oFd_ok (ty := ty) (call := call) (kd := kd) (kp := kp) p hop hk)
  | indexAddr t x i => rw [hop] at hk; exact q (oIa_ok (ty := ty) (call := call) (kd := kd) (kp := kp) p hop hk)
  | index t x i => rw [hop] at hk; exact q (oIx_ok (ty := ty) (call := call) (kd := kd) (kp := kp) p hop hk)
  | lookup t x i ok => rw [hop] at hk; exact q (oLook_ok (ty := ty) (call := call) (kd := kd) (kp := kp) p hop hk)
  | mapUpdate t m i x => rw [hop] at hk; exact s (oUpd_ok (ty := ty) (call := call) (kd := kd) (kp := kp) p (.inl hop) hk)
  | mapEntry t m i => rw [hop] at hk; exact .inl (oMpE_ok (ty := ty) (call := call) (kd := kd) (kp := kp) p hop hk)
  | entryStore t m st x => rw [hop] at hk; exact s (oEntS_ok (ty := ty) (call := call) (kd := kd) (kp := kp) hop hk)
  | range t x => rw [hop] at hk; exact .inl (oRng_ok (ty := ty) (call := call) (kd := kd) (kp := kp) p hop hk)
  | next it b => rw [hop] at hk; exact .inl (oNxt_ok (ty := ty) (call := call) (kd := kd) (kp := kp) hop hk)
  | entry it => rw [hop] at hk; exact q (oEnt_ok (ty := ty) (call := call) (kd := kd) (kp := kp) hop hk)
  | typeAssert x t a ok => rw [hop] at hk; exact q (oTA_ok (ty := ty) (call := call) (kd := kd) (kp := kp) p hop hk)
  | extract x i => rw [hop] at hk; exact q (oExt_ok (ty := ty) (call := call) (kd := kd) (kp := kp) hop hk)
  | call c =>
    rw [hop] at hk
    rcases oCall_ok (kd := kd) p hc hop hk with h1 | h1
    · exact .inl h1
    · exact .inr (.inr h1)
  | defer c => rw [hop] at hk; exact .inr (.inl (oDefer_ok (h := h) (k := k) (ty := ty) (call := call) (kd := kd) (kp := kp) hop hk))
  | panic x =>
    rw [hop] at hk
    obtain ⟨r, h1, h2⟩ := oPanic_ok (k := k) (ty := ty) (call := call) (kd := kd) (kp := kp) hop hk
    exact .inr (.inr ⟨r, h, h1, Grow.refl h, fun F δ W E hR hE rd X kn kb kdd hX => h2 F δ W E hR hE rd X kn kb kdd fun y hy => hX δ y W (Ex.refl _ _) hy hR⟩)
  | _ => rw [hop] at hk; exact no hk rfl

/-! ### Classes -/
/-- What the heap is changes nothing. -/
def Pure0 (op : Op) : Prop := ∀ (ty : TyT) (call : CallT) (e : VE) (h hx : Hp) (k : K) (kd : DV → Bool) (kp : KP), evOp op ty call e h k kd kp = true → evOp op ty call e hx (fun v _ => k v h) kd kp = true
theorem clsK_inv (p : Pg P ty fu) {op : Op} {κ : Nat → Bool} (h : clsK ty op κ = true) :
    (κ 0 = true ∧ Pure0 op ∧ ∀ (o : Oper) call e h k kd kp, o.op = op → evOp op ty call e h k kd kp = true → ∃ r, k r h = true ∧ QAns P o e h r) ∨
    (κ 1 = true ∧ ∀ (o : Oper) call e h k kd kp, o.op = op → evOp op ty call e h k kd kp = true → ∃ r, k r h = true ∧ QAns P o e h r) ∨
    (κ 2 = true ∧ ∀ (o : Oper) call e h k kd kp, o.op = op → evOp op ty call e h k kd kp = true → ∃ ob mk h', k (mk h.next) h' = true ∧ h'.next = h.next + 1 ∧ h'.at h.next = ob ∧ (∀ j, j ≠ h.next → h'.at j = h.at j) ∧ AAns P o e ob mk) ∨
    (κ 3 = true ∧ ((∃ t a x, op = .store t a x) ∨ ∃ t m ix x, op = .insert t m ix x)) ∨ κ 4 = true := by
  have pu : ∀ {op : Op}, Pure0 op → Pure0 op := id
  cases op with
  | move x => exact .inl ⟨h, fun _ _ _ _ _ _ _ _ hk => hk, fun o call e h k kd kp ho hk => oMove_ok (ty := ty) (call := call) (kd := kd) (kp := kp) (.inl ho) hk⟩
  | assign x => exact .inl ⟨h, fun _ _ _ _ _ _ _ _ hk => hk, fun o call e h k kd kp ho hk => oMove_ok (ty := ty) (call := call) (kd := kd) (kp := kp) (.inr ho) hk⟩
  | pick c a b => exact .inl ⟨h, fun _ _ _ _ _ _ _ _ hk => hk, fun o call e h k kd kp ho hk => oPick_ok (ty := ty) (call := call) (kd := kd) (kp := kp) ho hk⟩
  | build t ps => exact .inl ⟨h, fun _ _ _ _ _ _ _ _ hk => hk, fun o call e h k kd kp ho hk => oBuild_ok (ty := ty) (call := call) (kd := kd) (kp := kp) p ho hk⟩
  | nilCheck x => exact .inl ⟨h, fun _ _ _ _ _ _ _ _ hk => hk, fun o call e h k kd kp ho hk => oNil_ok (ty := ty) (call := call) (kd := kd) (kp := kp) ho hk⟩
  | binOp op t x y u => exact .inl ⟨h, fun _ _ _ _ _ _ _ _ hk => hk, fun o call e h k kd kp ho hk => oBin_ok (ty := ty) (call := call) (kd := kd) (kp := kp) p ho hk⟩
  | unOp op t x => exact .inl ⟨h, fun _ _ _ _ _ _ _ _ hk => hk, fun o call e h k kd kp ho hk => oUn_ok (ty := ty) (call := call) (kd := kd) (kp := kp) ho hk⟩
  | makeInterface t x => exact .inl ⟨h, fun _ _ _ _ _ _ _ _ hk => hk, fun o call e h k kd kp ho hk => oMkI_ok (ty := ty) (call := call) (kd := kd) (kp := kp) p ho hk⟩
  | makeFunc fn a b => exact .inl ⟨h, fun _ _ _ _ _ _ _ _ hk => hk, fun o call e h k kd kp ho hk => oMkF_ok (ty := ty) (call := call) (kd := kd) (kp := kp) ho hk⟩
  | fieldAddr a x f => exact .inl ⟨h, fun _ _ _ _ _ _ _ _ hk => hk, fun o call e h k kd kp ho hk => oFa_ok (ty := ty) (call := call) (kd := kd) (kp := kp) p ho hk⟩
  | field a x f => exact .inl ⟨h, fun _ _ _ _ _ _ _ _ hk => hk, fun o call e h k kd kp ho hk => oFd_ok (ty := ty) (call := call) (kd := kd) (kp := kp) p ho hk⟩
  | indexAddr t x i => exact .inl ⟨h, fun _ _ _ _ _ _ _ _ hk => hk, fun o call e h k kd kp ho hk => oIa_ok (ty := ty) (call := call) (kd := kd) (kp := kp) p ho hk⟩
  | index t x i => exact .inl ⟨h, fun _ _ _ _ _ _ _ _ hk => hk, fun o call e h k kd kp ho hk => oIx_ok (ty := ty) (call := call) (kd := kd) (kp := kp) p ho hk⟩
  | typeAssert x t a ok => exact .inr (.inl ⟨h, fun o call e h k kd kp ho hk => oTA_ok (ty := ty) (call := call) (kd := kd) (kp := kp) p ho hk⟩)
  | extract x i => exact .inl ⟨h, fun _ _ _ _ _ _ _ _ hk => hk, fun o call e h k kd kp ho hk => oExt_ok (ty := ty) (call := call) (kd := kd) (kp := kp) ho hk⟩
  | load t a => exact .inr (.inl ⟨h, fun o call e h k kd kp ho hk => oLoad_ok (ty := ty) (call := call) (kd := kd) (kp := kp) p ho hk⟩)
  | slice t x lo hi mx => exact .inr (.inl ⟨h, fun o call e h k kd kp ho hk => oSl_ok (ty := ty) (call := call) (kd := kd) (kp := kp) p ho hk⟩)
  | lookup t x i ok => exact .inr (.inl ⟨h, fun o call e h k kd kp ho hk => oLook_ok (ty := ty) (call := call) (kd := kd) (kp := kp) p ho hk⟩)
  | convert a b x =>
    obtain ⟨d, hd, h1⟩ := undK_inv p (show (undK ty b fun td => iff (Nat.beq (kindD td) 5) (κ 4) (κ 1)) = true from h)
    rcases iff_inv h1 with ⟨e1, h2⟩ | ⟨e1, h2⟩
    · exact .inr (.inr (.inr (.inr h2)))
    · refine .inr (.inl ⟨h2, fun o call e h k kd kp ho hk => ?_⟩)
      rcases oConv_ok (ty := ty) (call := call) (kd := kd) (kp := kp) p ho hk with h1 | ⟨⟨el, hel⟩, _⟩
      · exact h1
      · rw [hd] at hel; cases hel; cases e1
  | alloc t => exact .inr (.inr (.inl ⟨h, fun o call e h k kd kp ho hk => by obtain ⟨ob, h', h1⟩ := oAlloc_ok (ty := ty) (call := call) (kd := kd) (kp := kp) p ho hk; exact ⟨ob, fun N => .ptr N 0, h', h1⟩⟩))
  | box t x => exact .inr (.inr (.inl ⟨h, fun o call e h k kd kp ho hk => by obtain ⟨ob, h', h1⟩ := oBox_ok (ty := ty) (call := call) (kd := kd) (kp := kp) ho hk; exact ⟨ob, fun N => .ptr N 0, h', h1⟩⟩))
  | buildSlice t n ps => exact .inr (.inr (.inl ⟨h, fun o call e h k kd kp ho hk => by obtain ⟨ob, h', h1⟩ := oBuildSl_ok (ty := ty) (call := call) (kd := kd) (kp := kp) p ho hk; exact ⟨ob, fun N => .slc N 0 0 n, h', h1⟩⟩))
  | makeMap t r => exact .inr (.inr (.inl ⟨h, fun o call e h k kd kp ho hk => by obtain ⟨ob, h', h1⟩ := oMkMap_ok (ty := ty) (call := call) (kd := kd) (kp := kp) ho hk; exact ⟨ob, fun N => .map N, h', h1⟩⟩))
  | store t a x => exact .inr (.inr (.inr (.inl ⟨h, .inl ⟨t, a, x, rfl⟩⟩)))
  | insert t m ix x => exact .inr (.inr (.inr (.inl ⟨h, .inr ⟨t, m, ix, x, rfl⟩⟩)))
  | call c =>
    obtain ⟨cal, args, ats⟩ := c
    cases cal with
    | builtin b =>
      cases b with
      | len => exact .inr (.inl ⟨h, fun o call e h k kd kp ho hk => oLen_ok p ho hk⟩)
      | min => exact .inl ⟨h, fun _ _ _ _ _ _ _ _ hk => hk, fun o call e h k kd kp ho hk => minmax_ok ho (.inl rfl) hk⟩
      | max => exact .inl ⟨h, fun _ _ _ _ _ _ _ _ hk => hk, fun o call e h k kd kp ho hk => minmax_ok ho (.inr rfl) hk⟩
      | _ => exact .inr (.inr (.inr (.inr h)))
    | _ => exact .inr (.inr (.inr (.inr h)))
  | _ => exact .inr (.inr (.inr (.inr h)))
end
end Go.L.Ev
namespace Go.L
open Go Go.RowKit
set_option linter.unusedSimpArgs false
set_option linter.unusedVariables false

/-- An operation keeps the number of the frame's slots. -/
theorem opM_size {P : Program} {rd : Option Nat} {o : Oper} {a : Act} {w : World} {n : Nat} {K K' : Act → World → Prop} {Q : Exit → Act → World → Prop} (hs : a.tmps.size = n) (h : ∀ a w, a.tmps.size = n → K a w → K' a w)
    (hk : opM P rd o a w K Q) : opM P rd o a w K' Q := by
  unfold opM at hk ⊢
  have hp : ∀ v, (a.put o.dst v).tmps.size = n := fun v => by rw [put_size]; exact hs
  generalize (o.semAt rd a.eval).run P w = r at hk ⊢
  cases r with
  | halt x w' => cases x <;> exact hk
  | ok nx w' =>
    cases nx with
    | value v => exact h _ _ (hp v) hk
    | skip => exact h _ _ (hp _) hk
    | defer dd => exact h _ _ (by rw [put_size]; exact hs) hk
    | enter f args =>
      refine Calls.mono hk fun e w'' he => ?_
      cases e with
      | returned v => exact h _ _ (hp v) he
      | panicked c => exact he
      | outgrown => exact he
    | round l f tmps asn body =>
      refine RoundC.mono hk fun e w'' he => ?_
      cases e with
      | returned v => exact h _ _ (hp v) he
      | panicked c => exact he
      | outgrown => exact he
    | _ => exact hk
/-- As parOne, where it may panic. -/
def parOneX (P : Program) (n : Nat) (rd : Option Nat) (ops : Array Oper) (e : Env) (C : (Nat → Bool) → Prop) (Inv : PInv) (X : Chain → World → Prop) (i : Nat) (o : Oper) : Prop :=
  ∀ (S : Nat → Bool) (vs : Nat → Value) (W : World), Inv S vs W → C S → S i = false → (∀ j, j ∈ depsOf o → S j = true) →
    match o.guard with
    | none => vcOpV P rd false X o [] (setDeps n e ops vs (depsOf o)) W (fun _ v W' => Inv (inc S i) (setV vs i v) W') (fun _ _ => False)
    | some (g, want) =>
      match dstAt ops g with
      | none => False
      | some t => kGuard (setDeps n e ops vs (depsOf o) t) want
          (vcOpV P rd false X o [] (setDeps n e ops vs (depsOf o)) W (fun _ v W' => Inv (inc S i) (setV vs i v) W') (fun _ _ => False)) (Inv (inc S i) (setV vs i undef) W)
/-- A region that draws its order: one invariant for what may come in any order, then the rest one by one. -/
theorem par_sound {P : Program} {n : Nat} {rd : Option Nat} {ops : Array Oper} {Q : Exit → Act → World → Prop} {e : Env} {d : List Deferred} {w : World} {id : Nat} (hok : EnvOk n e) (hB : parB ops = true) (hm : P.follows .mixedOrders = true)
    {m : Nat} (hmle : m ≤ ops.size) (hA : m < ops.size → ∀ S, Clo (ops.toList.map depsOf) S → (∀ x ∈ depsOf (ops.getD m default), S x = true) → ∀ j, j < m → S j = true)
    (hB2 : ∀ i, m < i → i < ops.size → i - 1 ∈ depsOf (ops.getD i default)) (Inv : PInv) {X : Chain → World → Prop} (hX : ∀ ch (a : Act) W, X ch W → a.defers = d → a.tmps.size = n → (∀ s, (∀ (j : Nat) (oj : Oper), ops[j]? = some oj → oj.dst ≠ some s) → envOf a s = e s) → Q (.panic ch) a W) (hI0 : ∀ vs, Inv (fun _ => false) vs (w.drewN 1)) (hone : ∀ i o, i < m → ops[i]? = some o → parOneX P n rd ops e (Clo (ops.toList.map depsOf)) Inv X i o)
    (hfin : ∀ S vs W, Inv S vs W → (∀ j, j < m → S j = true) → wpOpsM P rd ops Q (List.range' m (ops.size - m)) (act n (setDeps n e ops vs (List.range m)) d) W) : wpM P rd (.region id ops true) Q (act n e d) w := by
  have hp := parOk_of hB
  have htail : ∀ i o, ops[i]? = some o → m < i → ∃ ed ∈ o.after, Region.binds .any ed = true ∧ ed.on = i - 1 := by
    intro i o ho hi
    have hlt := (Array.getElem?_eq_some_iff.1 ho).1
    have := hB2 i hi hlt
    have e1 : ops.getD i default = o := by simp [ho]
    rw [e1] at this
    exact mem_depsOf.1 this
  -- the phase behind the last operation that is taken in whatever order
  let Ph2 : (Nat → Bool) → Act → World → Prop := fun S a W => ∃ k, m ≤ k ∧ k ≤ ops.size ∧ (∀ j, j < ops.size → S j = decide (j < k)) ∧ a.tmps.size = n ∧
    wpOpsM P rd ops Q (List.range' k (ops.size - k)) a W
  let Ph1 : (Nat → Bool) → Act → World → Prop := fun S a W => (∀ j, m ≤ j → j < ops.size → S j = false) ∧ a.defers = d ∧ a.tmps.size = n ∧ (∀ (j : Nat) (o : Oper), ops[j]? = some o → S j = true → ∀ i, i ∈ depsOf o → S i = true) ∧ (∀ j, ops.size ≤ j → S j = false) ∧
    ∃ u, Agree n ops e S u (envOf a) ∧ Inv S u W
  have hputd : ∀ (a : Act) (dst : Option Tmp) (v : Value), (a.put dst v).defers = a.defers := fun a dst v => by cases dst <;> rfl
  have hev : ∀ (a : Act), a.eval = ev (envOf a) := eval_envOf
  -- from phase 1, all done, to phase 2
  have h12 : ∀ S a W, Ph1 S a W → (∀ i, i < m → S i = true) → Ph2 S a W := by
    rintro S a W ⟨hS, hd, hsz, _, _, u, ha, hI⟩ hdone
    refine ⟨m, Nat.le_refl _, hmle, fun j hj => ?_, hsz, ?_⟩
    · by_cases hjm : j < m
      · simp [hdone j hjm, hjm]
      · simp [hS j (by omega) hj, hjm]
    · have h1 := hfin S u W hI hdone
      have h2 := setDeps_agree (n := n) hp e u (List.range m) (fun j hj => by have := List.mem_range.1 hj; omega)
      have : (envOf a) = setDeps n e ops u (List.range m) := by
        funext s
        by_cases hw : ∃ (j : Nat) (oj : Oper), ops[j]? = some oj ∧ oj.dst = some s
        · obtain ⟨j, oj, hj, hjt⟩ := hw
          have hlt := (Array.getElem?_eq_some_iff.1 hj).1
          by_cases hjm : j < m
          · rw [ha.yes j oj s hj hjt (hdone j hjm), h2.yes j oj s hj hjt (by simpa using hjm)]
          · rw [ha.no j oj s hj hjt (hS j (by omega) hlt), h2.no j oj s hj hjt (by simpa using hjm)]
        · have hn : ∀ (j : Nat) (oj : Oper), ops[j]? = some oj → oj.dst ≠ some s := fun j oj hj hjt => hw ⟨j, oj, hj, hjt⟩
          rw [ha.out s hn, h2.out s hn]
      rw [← this, ← hd, act_self hsz] at h1; exact h1
  refine wpM_order hm (fun S a W => Ph1 S a W ∨ Ph2 S a W) hp.acyc ?_ ?_ (.inl ⟨fun _ _ _ => rfl, rfl, act_size n e d, fun _ _ _ h => by simp at h, fun _ _ => rfl, fun _ => undef, by rw [envOf_act hok]; exact Agree.start n ops e _, hI0 _⟩)
  · intro S a W i o hinv ho hSi hdep
    have hlt := (Array.getElem?_eq_some_iff.1 ho).1
    have step2 : Ph2 S a W → (if Region.wanted o (yielded ops a.tmps) then opM P rd o a W (fun a' w' => Ph1 (inc S i) a' w' ∨ Ph2 (inc S i) a' w') Q
       else (Ph1 (inc S i) (a.put o.dst undef) W ∨ Ph2 (inc S i) (a.put o.dst undef) W)) := by
      rintro ⟨k, hmk, hks, hS, hsz, hvc⟩
      have hik : i = k := by
        have h1 : ¬ i < k := by
          have := hS i hlt; rw [hSi] at this; simpa using this.symm
        have h2 : ¬ k < i := fun hki => by
          obtain ⟨ed, he, hb, hon⟩ := htail i o ho (by omega)
          have := hdep ed he hb
          rw [hon, hS (i - 1) (by omega)] at this
          have := of_decide_eq_true this
          omega
        omega
      subst hik
      have hr : List.range' i (ops.size - i) = i :: List.range' (i + 1) (ops.size - (i + 1)) := by
        rw [show ops.size - i = (ops.size - (i + 1)) + 1 by omega, List.range'_succ]
      rw [hr] at hvc
      simp only [wpOpsM, ho] at hvc
      have hinc : ∀ j, j < ops.size → inc S i j = decide (j < i + 1) := fun j hj => by
        have := congrFun (inc_lt i) j
        rw [← this]
        simp only [inc, hS j hj]
      have go : ∀ a' w', a'.tmps.size = n → wpOpsM P rd ops Q (List.range' (i + 1) (ops.size - (i + 1))) a' w' → Ph1 (inc S i) a' w' ∨ Ph2 (inc S i) a' w' := fun a' w' hs h => .inr ⟨i + 1, by omega, by omega, hinc, hs, h⟩
      split at hvc
      · rename_i hw; rw [if_pos hw]; exact opM_size hsz (fun a' w' hs h => go a' w' hs h) hvc
      · rename_i hw; rw [if_neg hw]; exact go _ _ (by rw [put_size]; exact hsz) hvc
    rcases hinv with h1 | h2
    · by_cases him : i < m
      · -- an operation of the first phase
        obtain ⟨hS, hd, hsz, hcl, hbig, u, ha, hI⟩ := h1
        have hDj : ∀ (j : Nat) (oj : Oper), ops[j]? = some oj → (ops.toList.map depsOf).getD j [] = depsOf oj := fun j oj hj => by simp [hj]
        have hClo : Clo (ops.toList.map depsOf) S := by
          intro j hSj x hx
          have hjlt : j < ops.size := by
            rcases Nat.lt_or_ge j ops.size with h1 | h1
            · exact h1
            · rw [hbig j h1] at hSj; cases hSj
          rw [hDj j _ (Array.getElem?_eq_getElem hjlt)] at hx
          exact hcl j _ (Array.getElem?_eq_getElem hjlt) hSj x hx
        have hob := hone i o him ho S u W hI hClo hSi (fun j hj => by
          obtain ⟨ed, he, hb, hon⟩ := mem_depsOf.1 hj
          subst hon
          exact hdep ed he hb)
        have hy := setDeps_agree (n := n) hp e u (depsOf o) (fun j hj => by
          obtain ⟨ed, he, hb, hon⟩ := mem_depsOf.1 hj
          have := hp.acyc i o ho ed he hb; omega)
        have hlooks : ∀ t, t ∈ o.looksAt ops → envOf a t = setDeps n e ops u (depsOf o) t := fun t ht =>
          ha.looks hp hy ho (fun ed he hb => ⟨hdep ed he hb, by simpa using mem_depsOf.2 ⟨ed, he, hb, rfl⟩, rfl⟩) (fun j oj hj ⟨ed, he, hb, hon⟩ => ⟨Bool.eq_false_iff.2 fun hSj => (by have h1 := hcl j oj hj hSj i (mem_depsOf.2 ⟨ed, he, hb, hon⟩); rw [hSi] at h1; cases h1), Bool.eq_false_iff.2 fun hmm => (by
            have hm' : j ∈ depsOf o := by simpa using hmm
            obtain ⟨ed2, he2, hb2, hon2⟩ := mem_depsOf.1 hm'
            have h1 := hp.acyc i o ho ed2 he2 hb2
            have h2 := hp.acyc j oj hj ed he hb
            omega)⟩) ht
        have hsem : o.semAt rd a.eval = o.semAt rd (ev (setDeps n e ops u (depsOf o))) := by rw [hev]; exact semAt_congr (hp.nosel i o ho) hlooks
        have hwant : Region.wanted o (yielded ops a.tmps) = Region.wanted o (yieldE ops (setDeps n e ops u (depsOf o))) := by
          rw [yielded_envOf]; exact yielded_congr hlooks
        have hnext : ∀ v W', Inv (inc S i) (setV u i v) W' → Ph1 (inc S i) (a.put o.dst v) W' := by
          intro v W' hI'
          have hu' : ∀ j, j ≠ i → setV u i v j = u j := fun j hj => by simp [setV, hj]
          refine ⟨fun j hj hjs => ?_, by rw [hputd]; exact hd, by rw [put_size]; exact hsz, ?_, fun j hj => ?_, setV u i v, by rw [envOf_put hsz]; exact ha.step hp ho (by simp [setV]) hu', hI'⟩
          · simp only [inc, show (j == i) = false by simp; omega, Bool.false_or]; exact hS j hj hjs
          · intro j oj hj hSj x hx
            simp only [inc, Bool.or_eq_true] at hSj ⊢
            rcases hSj with hji | hSj
            · have hji : j = i := by simpa using hji
              subst hji
              rw [ho] at hj; cases hj
              obtain ⟨ed, he, hb, rfl⟩ := mem_depsOf.1 hx
              exact .inr (hdep ed he hb)
            · exact .inr (hcl j oj hj hSj x hx)
          · simp only [inc, show (j == i) = false by simp; omega, Bool.false_or]; exact hbig j hj
        have hrun : vcOpV P rd false X o [] (setDeps n e ops u (depsOf o)) W (fun _ v W' => Inv (inc S i) (setV u i v) W') (fun _ _ => False) →
            opM P rd o a W (fun a' w' => Ph1 (inc S i) a' w' ∨ Ph2 (inc S i) a' w') Q := fun h =>
          vcOpV_sound (fun t b h => by simp at h) hsem (fun b v w' _ h => .inl (hnext v w' h)) (fun _ _ h => h.elim) (fun ch w' h => hX ch a w' h hd hsz ha.out) h
        unfold parOneX at hone
        cases hg : o.guard with
        | none =>
          simp only [hg] at hob
          rw [if_pos (wanted_none _ hg)]
          exact hrun hob
        | some gw =>
          obtain ⟨g, want⟩ := gw
          simp only [hg] at hob
          cases ht : dstAt ops g with
          | none => simp only [ht] at hob
          | some t =>
            simp only [ht] at hob
            rcases kGuard_cases hob with ⟨hv, hob⟩ | ⟨hv, hob⟩
            · rw [if_pos (by rw [hwant]; exact (wanted_of_dst hg ht).2 hv)]
              exact hrun hob
            · rw [if_neg (by rw [hwant]; exact fun h => hv ((wanted_of_dst hg ht).1 h))]
              exact .inl (hnext undef W hob)
      · refine step2 (h12 S a W h1 ?_)
        obtain ⟨hS, _, _, hcl, hbig, _⟩ := h1
        by_cases hme : i = m
        · subst hme
          have e1 : ops.getD i default = o := by simp [ho]
          refine hA hlt S (fun j hSj x hx => ?_) (fun x hx => ?_)
          · have hjlt : j < ops.size := by
              rcases Nat.lt_or_ge j ops.size with h1 | h1
              · exact h1
              · rw [hbig j h1] at hSj; cases hSj
            rw [show (ops.toList.map depsOf).getD j [] = depsOf ops[j] by simp [hjlt]] at hx
            exact hcl j _ (Array.getElem?_eq_getElem hjlt) hSj x hx
          · rw [e1] at hx
            obtain ⟨ed, he, hb, rfl⟩ := mem_depsOf.1 hx
            exact hdep ed he hb
        · obtain ⟨ed, he, hb, hon⟩ := htail i o ho (by omega)
          have := hdep ed he hb
          rw [hon, hS (i - 1) (by omega) (by omega)] at this
          cases this
    · exact step2 h2
  · intro S a W hinv hS
    have h2 : Ph2 S a W := by
      rcases hinv with h1 | h2
      · exact h12 S a W h1 fun i hi => hS i (by omega)
      · exact h2
    obtain ⟨k, _, hks, hSk, hsz, hvc⟩ := h2
    have hk : k = ops.size := by
      by_cases hk : k < ops.size
      · have := hSk k hk; rw [hS k hk] at this; simp at this
      · omega
    subst hk
    rw [Nat.sub_self] at hvc
    exact hvc
end Go.L
namespace Go.L.Ev
open Go Go.RowKit
variable [Ext]
set_option linter.unusedSimpArgs false
set_option linter.unusedVariables false
section
variable {P : Program} {ty : TyT} {fu : FuT}

/-! ### Frames -/
def DvR (δ : Pl) : DV → Deferred → Prop
  | .mk D, df => ∃ b c, δ D = some (b, c) ∧ df = markOf b
  | .fn f args, df => ∃ vs, decL δ args = some vs ∧ df = { target := .fn (.func f) #[], args := vs.toArray }
inductive DsR (δ : Pl) : Ds → List Deferred → Prop where
  | nil : DsR δ [] []
  | cons {v : DV} {df : Deferred} {d : Ds} {D : List Deferred} (h : DvR δ v df) (t : DsR δ d D) : DsR δ (v :: d) (df :: D)
theorem DvR.mono {δ δ' : Pl} (k : Pl.le δ δ') {v : DV} {df : Deferred} (h : DvR δ v df) : DvR δ' v df := by
  cases v with
  | mk D => obtain ⟨b, c, h1, h2⟩ := h; exact ⟨b, c, k _ _ h1, h2⟩
  | fn f args => obtain ⟨vs, h1, h2⟩ := h; exact ⟨vs, decL_mono k _ _ h1, h2⟩
theorem DsR.mono {δ δ' : Pl} (k : Pl.le δ δ') {d : Ds} {D : List Deferred} (h : DsR δ d D) : DsR δ' d D := by
  induction h with
  | nil => exact .nil
  | cons h _ ih => exact .cons (h.mono k) ih
/-- How it is left. -/
def exR (δ : Pl) : Option EX → Exit → Prop
  | none, ex => ex = .normal
  | some (.ext id), ex => ex = .exit id
  | some (.gt l), ex => ex = .goto l
  | some .ret, ex => ex = .ret
  | some (.pan v), ex => ∃ y, dec δ v = some y ∧ ex = .panic [{ v := y, recovered := false }]
theorem exR.mono {δ δ' : Pl} (k : Pl.le δ δ') {X : Option EX} {ex : Exit} (h : exR δ X ex) : exR δ' X ex := by
  cases X with
  | none => exact h
  | some x =>
    cases x with
    | pan v => obtain ⟨y, h1, h2⟩ := h; exact ⟨y, dec_mono k _ _ h1, h2⟩
    | _ => exact h
/-- The loop of which this is a round. -/
def RdR (δ : Pl) : Option Nat → Option Nat → Prop
  | none, b => b = none
  | some l, b => ∃ x c, b = some x ∧ δ l = some (x, c)
theorem RdR.mono {δ δ' : Pl} (k : Pl.le δ δ') {l b : Option Nat} (h : RdR δ l b) : RdR δ' l b := by
  cases l with
  | none => exact h
  | some l => obtain ⟨x, c, h1, h2⟩ := h; exact ⟨x, c, h1, k _ _ h2⟩
abbrev WpT := Option Nat → (Exit → Act → World → Prop) → Act → World → Prop
/-- What is known of the slots; behind a panic, perhaps not of all. -/
def EnvX (δ : Pl) (X : Option EX) (e : VE) (E : Env) : Prop := EnvR δ e E ∨ ((∃ v, X = some (.pan v)) ∧ ∀ t, e.at t = .skp ∨ dec δ (e.at t) = some (E t))
theorem EnvX.n {δ : Pl} {e : VE} {E : Env} (h : EnvX δ none e E) : EnvR δ e E := h.elim id fun ⟨⟨_, h⟩, _⟩ => by cases h
/-- What code does with a frame. -/
def Res (n : Nat) (rd : Option Nat) (wp : WpT) (e : VE) (d : Ds) (h : Hp) (X : Option EX) (e' : VE) (d' : Ds) (h' : Hp) : Prop :=
  Grow h h' ∧ ∀ F δ W E D b, Rel F δ h W → EnvR δ e E → EnvOk n E → DsR δ d D → RdR δ rd b → ∀ Q : Exit → Act → World → Prop,
    (∀ δ' E' D' W' ex, Ex h δ δ' → EnvX δ' X e' E' → EnvOk n E' → DsR δ' d' D' → exR δ' X ex → Rel F δ' h' W' → Q ex (act n E' D') W') → wp b Q (act n E D) W
def Outc (n : Nat) (rd : Option Nat) (wp : WpT) (e : VE) (d : Ds) (h : Hp) (kn : KN) (kx : KX) : Prop :=
  (∃ e' d' h', kn e' d' h' = true ∧ Res n rd wp e d h none e' d' h') ∨ ∃ x e' d' h', kx x e' d' h' = true ∧ Res n rd wp e d h (some x) e' d' h'
/-- First one thing, then another. -/
theorem Outc.step {n : Nat} {rd : Option Nat} {wp wp' : WpT} {e e1 : VE} {d d1 : Ds} {h h1 : Hp} {kn : KN} {kx : KX} (g : Grow h h1) (H : Outc n rd wp' e1 d1 h1 kn kx)
    (S : ∀ F δ W E D b, Rel F δ h W → EnvR δ e E → EnvOk n E → DsR δ d D → RdR δ rd b → ∀ Q : Exit → Act → World → Prop,
      (∀ δ' E' D' W', Ex h δ δ' → EnvR δ' e1 E' → EnvOk n E' → DsR δ' d1 D' → Rel F δ' h1 W' → RdR δ' rd b → wp' b Q (act n E' D') W') → wp b Q (act n E D) W) : Outc n rd wp e d h kn kx := by
  have key : ∀ X e' d' h', Res n rd wp' e1 d1 h1 X e' d' h' → Res n rd wp e d h X e' d' h' := by
    rintro X e' d' h' ⟨g', R⟩
    refine ⟨g.trans g', fun F δ W E D b hR hE hO hD hb Q hQ => S F δ W E D b hR hE hO hD hb Q fun δ1 E1 D1 W1 x1 hE1 hO1 hD1 hR1 hb1 => ?_⟩
    exact R F δ1 W1 E1 D1 b hR1 hE1 hO1 hD1 hb1 Q fun δ2 E2 D2 W2 ex x2 => hQ δ2 E2 D2 W2 ex (x1.trans g.next x2)
  rcases H with ⟨e', d', h', h2, h3⟩ | ⟨x, e', d', h', h2, h3⟩
  · exact .inl ⟨e', d', h', h2, key _ _ _ _ h3⟩
  · exact .inr ⟨x, e', d', h', h2, key _ _ _ _ h3⟩

/-! ### Operations one by one -/
theorem putK_inv {dst : Option Tmp} {n : Nat} {v : RV} {e : VE} {κ : VE → Bool} (h : putK dst n v e κ = true) : ∃ e', κ e' = true ∧ ((dst = none ∧ e' = e) ∨ ∃ t, dst = some t ∧ t < n ∧ e'.at t = v ∧ ∀ s, s ≠ t → e'.at s = e.at s) := by
  cases dst with
  | none => exact ⟨e, h, .inl ⟨rfl, rfl⟩⟩
  | some t =>
    obtain ⟨h1, h2⟩ := iff_t (b := Nat.blt t n) h
    obtain ⟨e', h3, h4, h5⟩ := Tr.set_inv (.tup []) _ _ _ _ h2
    exact ⟨e', h3, .inr ⟨t, rfl, Nat.le_of_ble_eq_true h1, h4, h5⟩⟩
theorem putK_env {dst : Option Tmp} {n : Nat} {v : RV} {e e' : VE} (h : (dst = none ∧ e' = e) ∨ ∃ t, dst = some t ∧ t < n ∧ e'.at t = v ∧ ∀ s, s ≠ t → e'.at s = e.at s) {δ : Pl} {E : Env} {x : Value} (hE : EnvR δ e E) (hv : dec δ v = some x) : EnvR δ e' (put n E dst x) := by
  rcases h with ⟨rfl, rfl⟩ | ⟨t, rfl, hn, h1, h2⟩
  · exact hE
  · intro s
    show dec δ (e'.at s) = some (upd n E t x s)
    by_cases hs : s = t
    · subst hs
      rw [h1, upd_same hn]; exact hv
    · rw [h2 s hs, upd_ne hs]; exact hE s
theorem rvGd_inv {v : RV} {κ : Bool → Bool} {sk : Bool} (h : rvGd v κ sk = true) : (∃ b, v = .bool b ∧ κ b = true) ∨ (v = .skp ∧ sk = true) := by
  cases v with
  | bool b => exact .inl ⟨b, rfl, h⟩
  | skp => exact .inr ⟨rfl, h⟩
  | _ => exact absurd (show false = true from h) (by decide)
/-- A guard: it is wanted, or not. -/
theorem guardK_inv {ops : Array Oper} {o : Oper} {e : VE} {run skip : Bool} (h : guardK o.guard ops.toList e run skip = true) :
    (run = true ∧ ∀ n δ E D, EnvR δ e E → EnvOk n E → Region.wanted o (yielded ops (act n E D).tmps) = true) ∨ (skip = true ∧ ∀ n δ E D, EnvR δ e E → EnvOk n E → Region.wanted o (yielded ops (act n E D).tmps) = false) := by
  cases hg : o.guard with
  | none =>
    rw [hg] at h
    exact .inl ⟨h, fun n δ E D _ _ => wanted_none _ hg⟩
  | some gw =>
    obtain ⟨g, want⟩ := gw
    rw [hg] at h
    have h : (nthK ops.toList g fun o => @Option.rec Tmp (fun _ => Bool) false (fun t => e.getK undefR t fun v => rvGd v (fun b => iff (bEq b want) run skip) skip) o.dst) = true := h
    obtain ⟨og, hog, h1⟩ := nthK_inv h
    cases hd : og.dst with
    | none => rw [hd] at h1; cases h1
    | some t =>
      rw [hd] at h1
      have h1 : (e.getK undefR t fun v => rvGd v (fun b => iff (bEq b want) run skip) skip) = true := h1
      rw [getK_eq] at h1
      have ht : dstAt ops g = some t := by
        have hog' : ops[g]? = some og := by simpa using hog
        simp [dstAt, hog', hd]
      have hw : ∀ n E D, EnvOk n E → (Region.wanted o (yielded ops (act n E D).tmps) = true ↔ E t = .bool want) := fun n E D hO => by
        rw [yielded_envOf ops (act n E D), envOf_act hO]
        exact wanted_of_dst hg ht
      have hno : ∀ n E D, EnvOk n E → E t ≠ .bool want → Region.wanted o (yielded ops (act n E D).tmps) = false := fun n E D hO hne => by
        cases hq : Region.wanted o (yielded ops (act n E D).tmps) with
        | false => rfl
        | true => exact absurd ((hw n E D hO).1 hq) hne
      rcases rvGd_inv h1 with ⟨b, hb, h2⟩ | ⟨hb, h2⟩
      · have hEt : ∀ δ E, EnvR δ e E → E t = .bool b := fun δ E hE => by
          have hE : dec δ (Tr.get (.tup []) e t) = some (E t) := hE t
          rw [show Tr.get (.tup []) e t = .bool b from hb] at hE
          exact (dec_bool hE)
        rcases iff_inv h2 with ⟨e1, h3⟩ | ⟨e1, h3⟩
        · rw [bEq_eq, beq_iff_eq] at e1
          subst e1
          exact .inl ⟨h3, fun n δ E D hE hO => (hw n E D hO).2 (hEt δ E hE)⟩
        · rw [bEq_eq] at e1
          refine .inr ⟨h3, fun n δ E D hE hO => hno n E D hO ?_⟩
          rw [hEt δ E hE]
          intro hh
          cases hh
          simp at e1
      · refine .inr ⟨h2, fun n δ E D hE hO => hno n E D hO fun hh => ?_⟩
        have hE : dec δ (Tr.get (.tup []) e t) = some (E t) := hE t
        rw [show Tr.get (.tup []) e t = .skp from hb, hh] at hE
        simp [dec, undef] at hE
theorem evOps_ok (p : Pg P ty fu) {call : CallT} (hc : CallS P call) {ops : Array Oper} {n : Nat} {rd : Option Nat} {nr : Bool} (hnr : nr = true → rd = none) {kn : KN} {kx : KX} : ∀ (l : List Oper) (k : Nat), (∀ j, l[j]? = ops[k + j]?) → ∀ (e : VE) (d : Ds) (h : Hp),
    evOps l ops.toList n ty call nr e d h kn kx = true → Outc n rd (fun b Q => wpOpsM P b ops Q (List.range' k (ops.size - k))) e d h kn kx
  | [], k, hl, e, d, h, hk => by
    have h0 := hl 0
    have hs : ops.size - k = 0 := by
      have : ops[k]? = none := by simpa using h0.symm
      have := Array.getElem?_eq_none_iff.1 this
      omega
    refine .inl ⟨e, d, h, hk, Grow.refl h, fun F δ W E D b hR hE hO hD hb Q hQ => ?_⟩
    show wpOpsM P b ops Q (List.range' k (ops.size - k)) _ _
    rw [hs]
    exact hQ δ E D W .normal (Ex.refl _ _) (.inl hE) hO hD rfl hR
  | o :: rest, k, hl, e, d, h, hk => by
    have ho : ops[k]? = some o := by have := hl 0; simpa using this.symm
    have hlt : k < ops.size := (Array.getElem?_eq_some_iff.1 ho).1
    have hr : List.range' k (ops.size - k) = k :: List.range' (k + 1) (ops.size - (k + 1)) := by
      rw [show ops.size - k = (ops.size - (k + 1)) + 1 by omega, List.range'_succ]
    have hrest : ∀ j, rest[j]? = ops[k + 1 + j]? := fun j => by have := hl (j + 1); rw [show k + 1 + j = k + (j + 1) by omega, ← this]; simp
    have ih := fun e d h (hk : evOps rest ops.toList n ty call nr e d h kn kx = true) => evOps_ok p hc hnr rest (k + 1) hrest e d h hk
    have hk : guardK o.guard ops.toList e
      (evOp o.op ty call e h (fun v h' => putK o.dst n v e fun e' => evOps rest ops.toList n ty call nr e' d h' kn kx) (fun dv => iff nr (putK o.dst n undefR e fun e' => evOps rest ops.toList n ty call nr e' (dv :: d) h kn kx) false) (fun v h' => kx (.pan v) e d h'))
      (putK o.dst n .skp e fun e' => evOps rest ops.toList n ty call nr e' d h kn kx) = true := hk
    rcases guardK_inv hk with ⟨h1, hw⟩ | ⟨h1, hw⟩
    · have opm : ∀ {b E D W} {next : Act → World → Prop} {Q : Exit → Act → World → Prop}, EnvOk n E → (Region.wanted o (yielded ops (act n E D).tmps) = true) → opM P b o (act n E D) W (wpOpsM P b ops Q (List.range' (k + 1) (ops.size - (k + 1)))) Q →
          wpOpsM P b ops Q (List.range' k (ops.size - k)) (act n E D) W := by
        intro b E D W next Q hO hw h
        rw [hr]
        simp only [wpOpsM, ho, hw, if_true]
        exact h
      rcases evOp_ok p hc h1 with ⟨r, h', h2, hA⟩ | ⟨dv, h2, hA⟩ | ⟨r, h', h2, hA⟩
      · obtain ⟨e', h3, hput⟩ := putK_inv h2
        refine Outc.step (wp' := fun b Q => wpOpsM P b ops Q (List.range' (k + 1) (ops.size - (k + 1)))) hA.1 (ih e' d h' h3) fun F δ W E D b hR hE hO hD hb Q hn => ?_
        refine opm (next := fun _ _ => True) hO (hw n δ E D hE hO) ?_
        refine vcOpV_sound (kn := []) (fun t b h => by simp at h) (by rw [act_eval hO]) (fun c v w' _ (hq : wpOpsM P b ops Q _ ((act n E D).put o.dst v) w') => hq) (kd := fun _ _ => False) (fun _ _ hf => hf.elim) (X := fun _ _ => False) (fun _ _ hf => hf.elim) ?_
        refine hA.2 F δ W E hR (hE.on _) b _ _ _ _ (fun t b h => by simp at h) fun δ' x W' c q1 q2 q3 q4 => ?_
        show wpOpsM P b ops Q _ ((act n E D).put o.dst x) W'
        rw [act_put]
        exact hn δ' _ D W' q1 (putK_env hput (hE.mono q1.le) q2) (hO.put _ _) (hD.mono q1.le) q3 (hb.mono q1.le)
      · obtain ⟨e1, h3⟩ := iff_t h2
        obtain ⟨e', h4, hput⟩ := putK_inv h3
        cases hnr e1
        obtain ⟨f, args, rfl, hA⟩ := hA
        refine Outc.step (wp' := fun b Q => wpOpsM P b ops Q (List.range' (k + 1) (ops.size - (k + 1)))) (Grow.refl h) (ih e' _ h h4) fun F δ W E D b hR hE hO hD hb Q hn => ?_
        cases hb
        refine opm (next := fun _ _ => True) hO (hw n δ E D hE hO) ?_
        obtain ⟨vs, q1, q2⟩ := hA δ W E (hE.on _)
        refine vcOpV_sound (kn := []) (fun t b h => by simp at h) (by rw [act_eval hO]) (kb := fun _ _ _ => False) (fun c v w' _ hf => hf.elim) (fun df w' (hq : wpOpsM P none ops Q _ (({ act n E D with defers := df :: (act n E D).defers } : Act).put o.dst undef) w') => hq) (X := fun _ _ => False) (fun _ _ hf => hf.elim) ?_
        refine q2 _ _ _ _ ?_
        show wpOpsM P none ops Q _ ((act n E (_ :: D)).put o.dst undef) W
        rw [act_put]
        exact hn δ _ _ W (Ex.refl _ _) (putK_env hput hE (by simp [dec, decL, undef])) (hO.put _ _) (.cons ⟨vs, q1, rfl⟩ hD) hR rfl
      · refine .inr ⟨.pan r, e, d, h', h2, hA.1, fun F δ W E D b hR hE hO hD hb Q hQ => ?_⟩
        refine opm (next := fun _ _ => True) hO (hw n δ E D hE hO) ?_
        refine vcOpV_sound (kn := []) (fun t b h => by simp at h) (by rw [act_eval hO]) (kb := fun _ _ _ => False) (fun c v w' _ hf => hf.elim) (kd := fun _ _ => False) (fun _ _ hf => hf.elim) (fun ch w' (hq : Q (.panic ch) (act n E D) w') => hq) ?_
        refine hA.2 F δ W E hR (hE.on _) b _ _ _ _ fun δ' y W' q1 q2 q3 => ?_
        exact hQ δ' E D W' _ q1 (.inl (hE.mono q1.le)) hO (hD.mono q1.le) ⟨y, q2, rfl⟩ q3
    · obtain ⟨e', h3, hput⟩ := putK_inv h1
      refine Outc.step (wp' := fun b Q => wpOpsM P b ops Q (List.range' (k + 1) (ops.size - (k + 1)))) (Grow.refl h) (ih e' d h h3) fun F δ W E D b hR hE hO hD hb Q hn => ?_
      rw [hr]
      simp only [wpOpsM, ho, hw n δ E D hE hO, Bool.false_eq_true, if_false]
      rw [act_put]
      exact hn δ _ D W (Ex.refl _ _) (putK_env hput hE (by simp [dec])) (hO.put _ _) hD hR hb
end
end Go.L.Ev
namespace Go.L.Ev
open Go Go.RowKit
variable [Ext]
set_option linter.unusedSimpArgs false
set_option linter.unusedVariables false

/-! ### Numbers below a bound -/
def cut (δ : Pl) (k : Nat) : Pl := fun N => if N < k then δ N else none
theorem cut_get {δ : Pl} {k N : Nat} (h : N < k) : cut δ k N = δ N := by simp [cut, h]
theorem cut_none {δ : Pl} {k N : Nat} (h : k ≤ N) : cut δ k N = none := by simp [cut, Nat.not_lt.2 h]
theorem cut_le {δ : Pl} {j k : Nat} (h : j ≤ k) : Pl.le (cut δ j) (cut δ k) := fun N p hp => by
  unfold cut at hp ⊢
  split at hp
  · rw [if_pos (by omega)]; exact hp
  · cases hp
theorem cut_self (δ : Pl) (k : Nat) : Pl.le (cut δ k) δ := fun N p hp => by
  unfold cut at hp
  split at hp
  · exact hp
  · cases hp
theorem cut_mono {δ δ' : Pl} (h : Pl.le δ δ') (k : Nat) : Pl.le (cut δ k) (cut δ' k) := fun N p hp => by
  unfold cut at hp ⊢
  split at hp
  · rename_i hN; rw [if_pos hN]; exact h _ _ hp
  · cases hp
noncomputable def rvLtL (l : List RV) (k : Nat) : Bool := rvLt (.agg l) k
theorem blt_t {i k : Nat} (h : Nat.blt i k = true) : i < k := Nat.le_of_ble_eq_true h
mutual
theorem rvLt_dec : ∀ (v : RV) {δ : Pl} {k : Nat} {x : Value}, rvLt v k = true → dec δ v = some x → dec (cut δ k) v = some x
  | .bool _, δ, k, x, _, h => by simpa [dec] using h
  | .int _ _, δ, k, x, _, h => by simpa [dec] using h
  | .str n len, δ, k, x, hl, h => by
    have hl : iff (strB n len) true (Nat.blt n k) = true := hl
    rcases iff_inv hl with ⟨e, _⟩ | ⟨_, e⟩
    · rw [str_dec (strB_w e)] at h ⊢; exact h
    · simp only [dec] at h ⊢; rw [cut_get (blt_t e)]; exact h
  | .ptr i off, δ, k, x, hl, h => by simp only [dec] at h ⊢; rw [cut_get (blt_t hl)]; exact h
  | .nilp, δ, k, x, _, h => by simpa [dec] using h
  | .glob _ _, δ, k, x, _, h => by simpa [dec] using h
  | .slc i off ce len, δ, k, x, hl, h => by simp only [dec] at h ⊢; rw [cut_get (blt_t hl)]; exact h
  | .asl i off len cap, δ, k, x, hl, h => by simp only [dec] at h ⊢; rw [cut_get (blt_t hl)]; exact h
  | .nils, δ, k, x, _, h => by simpa [dec] using h
  | .nilm, δ, k, x, _, h => by simpa [dec] using h
  | .map i, δ, k, x, hl, h => by simp only [dec] at h ⊢; rw [cut_get (blt_t hl)]; exact h
  | .fn f a b, δ, k, x, hl, h => by
    have hl : iff (rvLtL a k) (rvLtL b k) false = true := hl
    obtain ⟨h1, h2⟩ := iff_t hl
    obtain ⟨y, z, hy, hz, rfl⟩ := dec_fn h
    simp only [dec, rvLtL_dec a h1 hy, rvLtL_dec b h2 hz]
  | .nilf, δ, k, x, _, h => by simpa [dec] using h
  | .ifc t v, δ, k, x, hl, h => by
    obtain ⟨y, hy, rfl⟩ := dec_ifc h
    simp only [dec, rvLt_dec v hl hy]
  | .nili, δ, k, x, _, h => by simpa [dec] using h
  | .agg l, δ, k, x, hl, h => by
    obtain ⟨y, hy, rfl⟩ := dec_agg h
    simp only [dec, rvLtL_dec l hl hy]
  | .tup l, δ, k, x, hl, h => by
    simp only [dec] at h
    cases hy : decL δ l with
    | none => simp [hy] at h
    | some y =>
      rw [hy] at h
      simp only [dec, rvLtL_dec l hl hy]
      exact h
  | .emp i off ce dl sz, δ, k, x, hl, h => by simp only [dec] at h ⊢; rw [cut_get (blt_t hl)]; exact h
  | .yld i, δ, k, x, hl, h => by simp only [dec] at h ⊢; rw [cut_get (blt_t hl)]; exact h
  | .skp, δ, k, x, _, h => by simpa [dec] using h
theorem rvLtL_dec : ∀ (l : List RV) {δ : Pl} {k : Nat} {x : List Value}, rvLtL l k = true → decL δ l = some x → decL (cut δ k) l = some x
  | [], δ, k, x, _, h => by rw [decL_nil] at h ⊢; exact h
  | a :: l, δ, k, x, hl, h => by
    have hl : iff (rvLt a k) (rvLtL l k) false = true := hl
    obtain ⟨h1, h2⟩ := iff_t hl
    obtain ⟨y, z, hy, hz, rfl⟩ := decL_cons_inv h
    exact decL_cons (rvLt_dec a h1 hy) (rvLtL_dec l h2 hz)
end

/-! ### One step of a region that draws its order -/
inductive Kd where
  | q
  | l
  | m (N : Nat) (ob : Ob)
  | s (N : Nat) (ob0 ob : Ob)
  | t (N : Nat) (ob0 ob : Ob)
  | e (fl : List Nat)
structure St where
  h : Hp
  e : VE
  fl : List Fl
  past : List (Nat × Hp)
  pd : List Pd
section
variable {P : Program} {ty : TyT} {fu : FuT}
def EStep (n : Nat) (dst : Option Tmp) (r : RV) (e e' : VE) : Prop := (dst = none ∧ e' = e) ∨ ∃ t, dst = some t ∧ t < n ∧ e'.at t = r ∧ ∀ s, s ≠ t → e'.at s = e.at s
def GYes (ops : Array Oper) (o : Oper) (e : VE) : Prop := o.guard = none ∨ ∃ g want t, o.guard = some (g, want) ∧ dstAt ops g = some t ∧ e.at t = .bool want
def GNo (ops : Array Oper) (o : Oper) (e : VE) : Prop := ∃ g want t, o.guard = some (g, want) ∧ dstAt ops g = some t ∧ (e.at t = .skp ∨ ∃ b, e.at t = .bool b ∧ b ≠ want)
/-- Those that are waited for join. -/
inductive Join (A : List Nat) : List Fl → Hp → List Fl → Hp → Prop where
  | nil {h : Hp} : Join A [] h [] h
  | in_ {f : Fl} {fl fl' : List Fl} {h h1 hj : Hp} (hst : ∀ u ∈ f.st, memN A u = true) (hn : h1.next = h.next) (hat : h1.at f.N = f.ob) (hold : ∀ j, j ≠ f.N → h1.at j = h.at j) (t : Join A fl h1 fl' hj) : Join A (f :: fl) h fl' hj
  | out {f : Fl} {fl fl' : List Fl} {h hj : Hp} (t : Join A fl h fl' hj) : Join A (f :: fl) h (f :: fl') hj
def PastOk (P : Program) (o : Oper) (e : VE) (r : RV) (A : List Nat) (past : List (Nat × Hp)) : Prop :=
  ∀ pre c hc post, past = pre ++ (c, hc) :: post → (∃ x ∈ pre, memN A x.1 = true) ∨ memN A c = true ∨ QAns P o e hc r
inductive Stp (P : Program) (ops : Array Oper) (n : Nat) (pc : Option Nat) (A : List Nat) (i : Nat) (o : Oper) (s : St) : Kd → RV → St → Prop where
  | skip {e' : VE} (hg : GNo ops o s.e ∨ ∃ c, pc = some c ∧ i ≠ c ∧ memN A c = true) (he : EStep n o.dst .skp s.e e') : Stp P ops n pc A i o s .q .skp { s with e := e' }
  | q {r : RV} {e' : VE} (hg : GYes ops o s.e) (he : EStep n o.dst r s.e e') (ha : QAns P o s.e ⟨s.h.next, .lf⟩ r) : Stp P ops n pc A i o s .q r { s with e := e' }
  | l {r : RV} {e' : VE} (hg : GYes ops o s.e) (he : EStep n o.dst r s.e e') (ha : QAns P o s.e s.h r) (hlt : rvLt r s.h.next = true) (hp : PastOk P o s.e r A s.past) : Stp P ops n pc A i o s .l r { s with e := e', pd := ⟨i, o, s.e, r⟩ :: s.pd }
  | m {ob : Ob} {mk : Nat → RV} {h' : Hp} {e' : VE} (hg : GYes ops o s.e) (he : EStep n o.dst (mk s.h.next) s.e e') (hn : h'.next = s.h.next + 1) (hno : h'.at s.h.next = .no) (hold : ∀ j, j ≠ s.h.next → h'.at j = s.h.at j) (ha : AAns P o s.e ob mk) :
      Stp P ops n pc A i o s (.m s.h.next ob) (mk s.h.next) { s with h := h', e := e', fl := ⟨s.h.next, ob, [i]⟩ :: s.fl }
  | s {pre post : List Fl} {f : Fl} {ob : Ob} {h' : Hp} {e' : VE} (hg : GYes ops o s.e) (he : EStep n o.dst undefR s.e e') (hf : s.fl = pre ++ f :: post) (hst : ∀ u ∈ f.st, memN A u = true) (hne : f.ob ≠ .no)
      (hn : h'.next = s.h.next) (hno : h'.at f.N = .no) (hold : ∀ j, j ≠ f.N → h'.at j = s.h.at j) (ha : SAns P o s.e f.N f.ob ob) :
      Stp P ops n pc A i o s (.s f.N f.ob ob) undefR { s with h := h', e := e', fl := pre ++ ⟨f.N, ob, i :: f.st⟩ :: post }
  | t {N : Nat} {ob : Ob} {h' : Hp} {e' : VE} (hg : GYes ops o s.e) (he : EStep n o.dst undefR s.e e') (hne : s.h.at N ≠ .no) (hnf : ∀ f ∈ s.fl, f.N ≠ N) (hlc : lcOk s.past A = true)
      (hn : h'.next = s.h.next) (hno : h'.at N = .no) (hold : ∀ j, j ≠ N → h'.at j = s.h.at j) (hpd : ∀ p ∈ s.pd, memN A p.i = true ∨ QAns P p.o p.e h' p.r) (ha : SAns P o s.e N (s.h.at N) ob) :
      Stp P ops n pc A i o s (.t N (s.h.at N) ob) undefR { s with h := h', e := e', fl := ⟨N, ob, [i]⟩ :: s.fl }
  | e {hj h' : Hp} {r : RV} {e' : VE} {fl' : List Fl} {pd' : List Pd} (hg : GYes ops o s.e) (he : EStep n o.dst r s.e e') (hlc : lcOk s.past A = true) (join : Join A s.fl s.h fl' hj) (hno : ∀ f ∈ fl', h'.at f.N = .no)
      (ha : EAns P o s.e hj r h' ∨ (pc = some i ∧ Grow hj h')) (hpd : ∀ p ∈ s.pd, memN A p.i = true ∨ (p ∈ pd' ∧ QAns P p.o p.e h' p.r)) (hpd' : ∀ p ∈ pd', p ∈ s.pd) :
      Stp P ops n pc A i o s (.e (fl'.map (·.N))) r { h := h', e := e', fl := fl', past := (i, s.h) :: s.past, pd := pd' }

/-! ### The evaluation's parts -/
theorem allIn_inv {A : List Nat} : ∀ {l : List Nat}, allIn l A = true → ∀ u ∈ l, memN A u = true
  | [], _, u, hu => by cases hu
  | a :: l, h, u, hu => by
    obtain ⟨h1, h2⟩ := iff_t (show iff (memN A a) (allIn l A) false = true from h)
    rcases List.mem_cons.1 hu with rfl | hu
    · exact h1
    · exact allIn_inv h2 u hu
theorem flJoin_inv {A : List Nat} : ∀ {fl : List Fl} {h : Hp} {κ : List Fl → Hp → Bool}, flJoin fl A h κ = true → ∃ fl' hj, κ fl' hj = true ∧ Join A fl h fl' hj
  | [], h, κ, hk => ⟨[], h, hk, .nil⟩
  | f :: fl, h, κ, hk => by
    have hk : iff (anyIn f.st A) (iff (allIn f.st A) (setO f.N f.ob h fun h => flJoin fl A h κ) false) (flJoin fl A h fun r h => κ (f :: r) h) = true := hk
    rcases iff_inv hk with ⟨_, h1⟩ | ⟨_, h1⟩
    · obtain ⟨e1, h2⟩ := iff_t h1
      obtain ⟨h', h3, a1, a2, a3⟩ := setO_inv h2
      obtain ⟨fl', hj, h4, h5⟩ := flJoin_inv h3
      exact ⟨fl', hj, h4, .in_ (allIn_inv e1) a1 a2 a3 h5⟩
    · obtain ⟨fl', hj, h4, h5⟩ := flJoin_inv h1
      exact ⟨f :: fl', hj, h4, .out h5⟩
theorem flFind_inv {N : Nat} : ∀ {fl : List Fl} {no : Bool} {κ : Fl → (Fl → List Fl) → Bool}, flFind fl N no κ = true → (no = true ∧ ∀ f ∈ fl, f.N ≠ N) ∨ ∃ pre f post, fl = pre ++ f :: post ∧ f.N = N ∧ κ f (fun g => pre ++ g :: post) = true
  | [], no, κ, h => .inl ⟨h, fun f hf => by cases hf⟩
  | f :: fl, no, κ, h => by
    have h : iff (Nat.beq f.N N) (κ f fun g => g :: fl) (flFind fl N no fun x mk => κ x fun g => f :: mk g) = true := h
    rcases iff_inv h with ⟨e1, h1⟩ | ⟨e1, h1⟩
    · exact .inr ⟨[], f, fl, rfl, Nat.eq_of_beq_eq_true e1, h1⟩
    · have hne : f.N ≠ N := fun e => by rw [e] at e1; simp at e1
      rcases flFind_inv h1 with ⟨h2, h3⟩ | ⟨pre, g, post, h2, h3, h4⟩
      · refine .inl ⟨h2, fun g hg => ?_⟩
        rcases List.mem_cons.1 hg with rfl | hg
        · exact hne
        · exact h3 g hg
      · exact .inr ⟨f :: pre, g, post, by rw [h2]; rfl, h3, h4⟩
/-- What only looks. -/
def LookP (P : Program) (ty : TyT) (o : Oper) : Prop := ∀ call e h k kd kp, evOp o.op ty call e h k kd kp = true → ∃ r, k r h = true ∧ QAns P o e h r
theorem look_same {o : Oper} (H : LookP P ty o) {call : CallT} {e : VE} {h : Hp} {r : RV} {x : Bool} (hk : evOp o.op ty call e h (fun v _ => iff (rvEq v r) x false) (fun _ => false) (fun _ _ => false) = true) : x = true ∧ QAns P o e h r := by
  obtain ⟨v, h1, h2⟩ := H _ _ _ _ _ _ hk
  obtain ⟨h3, h4⟩ := iff_t h1
  cases rvEq_inv _ _ h3
  exact ⟨h4, h2⟩
theorem lookPast_inv {o : Oper} (H : LookP P ty o) {call : CallT} {e : VE} {r : RV} {A : List Nat} {x : Bool} : ∀ {past : List (Nat × Hp)}, lookPast ty call o r A e past x = true → x = true ∧ PastOk P o e r A past
  | [], h => ⟨h, fun pre c hc post hp => by cases pre <;> cases hp⟩
  | (c, hc) :: past, h => by
    have h : iff (memN A c) x (evOp o.op ty call e hc (fun v _ => iff (rvEq v r) (lookPast ty call o r A e past x) false) (fun _ => false) (fun _ _ => false)) = true := h
    rcases iff_inv h with ⟨e1, h1⟩ | ⟨e1, h1⟩
    · refine ⟨h1, fun pre c' hc' post hp => ?_⟩
      cases pre with
      | nil => cases hp; exact .inr (.inl e1)
      | cons y pre =>
        simp only [List.cons_append, List.cons.injEq] at hp
        exact .inl ⟨y, List.mem_cons_self .., by rw [← hp.1]; exact e1⟩
    · obtain ⟨h2, hq⟩ := look_same H h1
      obtain ⟨h3, h4⟩ := lookPast_inv H h2
      refine ⟨h3, fun pre c' hc' post hp => ?_⟩
      cases pre with
      | nil => cases hp; exact .inr (.inr hq)
      | cons y pre =>
        simp only [List.cons_append, List.cons.injEq] at hp
        rcases h4 pre c' hc' post hp.2 with ⟨z, hz, hm⟩ | h5
        · exact .inl ⟨z, List.mem_cons_of_mem _ hz, hm⟩
        · exact .inr h5
theorem pdAgain_inv {call : CallT} {A : List Nat} {h : Hp} : ∀ {pd : List Pd} {κ : List Pd → Bool}, (∀ p ∈ pd, LookP P ty p.o) → pdAgain ty call A h pd κ = true →
    ∃ pd', κ pd' = true ∧ (∀ p ∈ pd, memN A p.i = true ∨ (p ∈ pd' ∧ QAns P p.o p.e h p.r)) ∧ ∀ p ∈ pd', p ∈ pd
  | [], κ, _, hk => ⟨[], hk, fun p hp => (by cases hp), fun p hp => (by cases hp)⟩
  | p :: pd, κ, hl, hk => by
    have hk : iff (memN A p.i) (pdAgain ty call A h pd κ) (evOp p.o.op ty call p.e h (fun v _ => iff (rvEq v p.r) (pdAgain ty call A h pd fun r => κ (p :: r)) false) (fun _ => false) (fun _ _ => false)) = true := hk
    have hl' : ∀ p ∈ pd, LookP P ty p.o := fun q hq => hl q (List.mem_cons_of_mem _ hq)
    rcases iff_inv hk with ⟨e1, h1⟩ | ⟨e1, h1⟩
    · obtain ⟨pd', h2, h3, h4⟩ := pdAgain_inv hl' h1
      refine ⟨pd', h2, fun q hq => ?_, fun q hq => List.mem_cons_of_mem _ (h4 q hq)⟩
      rcases List.mem_cons.1 hq with rfl | hq
      · exact .inl e1
      · exact h3 q hq
    · obtain ⟨h2, hq⟩ := look_same (hl p (List.mem_cons_self ..)) h1
      obtain ⟨pd', h3, h4, h5⟩ := pdAgain_inv hl' h2
      refine ⟨p :: pd', h3, fun q hqm => ?_, fun q hqm => ?_⟩
      · rcases List.mem_cons.1 hqm with rfl | hqm
        · exact .inr ⟨List.mem_cons_self .., hq⟩
        · rcases h4 q hqm with h6 | ⟨h6, h7⟩
          · exact .inl h6
          · exact .inr ⟨List.mem_cons_of_mem _ h6, h7⟩
      · rcases List.mem_cons.1 hqm with rfl | hqm
        · exact List.mem_cons_self ..
        · exact List.mem_cons_of_mem _ (h5 q hqm)
theorem pdOk_inv {call : CallT} {A : List Nat} {h : Hp} : ∀ {pd : List Pd}, (∀ p ∈ pd, LookP P ty p.o) → pdOk ty call A h pd = true → ∀ p ∈ pd, memN A p.i = true ∨ QAns P p.o p.e h p.r
  | [], _, _, p, hp => by cases hp
  | p :: pd, hl, hk, q, hq => by
    have hk : iff (memN A p.i) (pdOk ty call A h pd) (evOp p.o.op ty call p.e h (fun v _ => iff (rvEq v p.r) (pdOk ty call A h pd) false) (fun _ => false) (fun _ _ => false)) = true := hk
    have hl' : ∀ p ∈ pd, LookP P ty p.o := fun q hq => hl q (List.mem_cons_of_mem _ hq)
    rcases iff_inv hk with ⟨e1, h1⟩ | ⟨e1, h1⟩
    · rcases List.mem_cons.1 hq with rfl | hq
      · exact .inl e1
      · exact pdOk_inv hl' h1 q hq
    · obtain ⟨h2, hqa⟩ := look_same (hl p (List.mem_cons_self ..)) h1
      rcases List.mem_cons.1 hq with rfl | hq
      · exact .inr hqa
      · exact pdOk_inv hl' h2 q hq
theorem isNo_inv {o : Ob} (h : isNo o = true) : o = .no := by cases o <;> first | rfl | exact absurd (show false = true from h) (by decide)
theorem noFl_inv {h : Hp} : ∀ {fl : List Fl}, noFl h fl = true → ∀ f ∈ fl, h.at f.N = .no
  | [], _, f, hf => by cases hf
  | g :: fl, hk, f, hf => by
    have hk : (h.t.getK .no g.N fun o => iff (isNo o) (noFl h fl) false) = true := hk
    rw [getK_eq] at hk
    obtain ⟨h1, h2⟩ := iff_t hk
    rcases List.mem_cons.1 hf with rfl | hf
    · exact isNo_inv h1
    · exact noFl_inv h2 f hf
/-- All join. -/
inductive FAll : List Fl → Hp → Hp → Prop where
  | nil {h : Hp} : FAll [] h h
  | cons {f : Fl} {fl : List Fl} {h h1 h' : Hp} (hn : h1.next = h.next) (hat : h1.at f.N = f.ob) (hold : ∀ j, j ≠ f.N → h1.at j = h.at j) (t : FAll fl h1 h') : FAll (f :: fl) h h'
theorem flAll_inv : ∀ {fl : List Fl} {h : Hp} {κ : Hp → Bool}, flAll fl h κ = true → ∃ h', κ h' = true ∧ FAll fl h h'
  | [], h, κ, hk => ⟨h, hk, .nil⟩
  | f :: fl, h, κ, hk => by
    have hk : (setO f.N f.ob h fun h => flAll fl h κ) = true := hk
    obtain ⟨h1, h2, a1, a2, a3⟩ := setO_inv hk
    obtain ⟨h', h3, h4⟩ := flAll_inv h2
    exact ⟨h', h3, .cons a1 a2 a3 h4⟩
theorem guardK_par {ops : Array Oper} {o : Oper} {e : VE} {run skip : Bool} (h : guardK o.guard ops.toList e run skip = true) : (run = true ∧ GYes ops o e) ∨ (skip = true ∧ GNo ops o e) := by
  cases hg : o.guard with
  | none => rw [hg] at h; exact .inl ⟨h, .inl hg⟩
  | some gw =>
    obtain ⟨g, want⟩ := gw
    rw [hg] at h
    have h : (nthK ops.toList g fun o => @Option.rec Tmp (fun _ => Bool) false (fun t => e.getK undefR t fun v => rvGd v (fun b => iff (bEq b want) run skip) skip) o.dst) = true := h
    obtain ⟨og, hog, h1⟩ := nthK_inv h
    cases hd : og.dst with
    | none => rw [hd] at h1; cases h1
    | some t =>
      rw [hd] at h1
      have h1 : (e.getK undefR t fun v => rvGd v (fun b => iff (bEq b want) run skip) skip) = true := h1
      rw [getK_eq] at h1
      have ht : dstAt ops g = some t := by
        have hog' : ops[g]? = some og := by simpa using hog
        simp [dstAt, hog', hd]
      rcases rvGd_inv h1 with ⟨b, hb, h2⟩ | ⟨hb, h2⟩
      · rcases iff_inv h2 with ⟨e1, h3⟩ | ⟨e1, h3⟩
        · rw [bEq_eq, beq_iff_eq] at e1
          exact .inl ⟨h3, .inr ⟨g, want, t, hg, ht, by rw [← e1]; exact hb⟩⟩
        · rw [bEq_eq] at e1
          exact .inr ⟨h3, g, want, t, hg, ht, .inr ⟨b, hb, by simpa using e1⟩⟩
      · exact .inr ⟨h2, g, want, t, hg, ht, .inl hb⟩
theorem stAddr_inv {t : TypeId} {a x : Operand} {e : VE} {no : Bool} {κ : Nat → Bool} (h : stAddr (.store t a x) e no κ = true) : no = true ∨ ∃ s N off, a = .tmp s ∧ e.at s = .ptr N off ∧ κ N = true := by
  have h : (opd a e fun p => iff (isCon 3 p) (rvPtr p fun i _ => κ i) no) = true := h
  cases a with
  | tmp s =>
    have h : e.getK (.tup []) s (fun p => iff (isCon 3 p) (rvPtr p fun i _ => κ i) no) = true := h
    rw [getK_eq] at h
    rcases iff_inv h with ⟨_, h1⟩ | ⟨_, h1⟩
    · obtain ⟨i, off, h2, h3⟩ := rvPtr_inv h1
      exact .inr ⟨s, i, off, rfl, h2, h3⟩
    · exact .inl h1
  | global g =>
    have h : iff (Nat.blt g 1000000) (iff (isCon 3 (.glob g 0)) (rvPtr (.glob g 0) fun i _ => κ i) no) false = true := h
    rcases iff_inv (iff_t h).2 with ⟨e1, _⟩ | ⟨_, h1⟩
    · exact absurd e1 (by simp [isCon, conN])
    · exact .inl h1
  | func f =>
    have h : iff (isCon 3 (.fn (.func f) [] [])) (rvPtr (.fn (.func f) [] []) fun i _ => κ i) no = true := h
    rcases iff_inv h with ⟨e1, _⟩ | ⟨_, h1⟩
    · exact absurd e1 (by simp [isCon, conN])
    · exact .inl h1
  | const v =>
    obtain ⟨r, h1, hr⟩ := ofV_inv v (show ofV v (fun p => iff (isCon 3 p) (rvPtr p fun i _ => κ i) no) = true from h)
    rcases iff_inv h1 with ⟨e1, h2⟩ | ⟨_, h2⟩
    · obtain ⟨i, off, rfl, _⟩ := rvPtr_inv h2
      have h3 := hr (fun _ => none)
      simp [dec] at h3
    · exact .inl h2
theorem stAddrI_inv {t : TypeId} {a ix x : Operand} {e : VE} {no : Bool} {κ : Nat → Bool} (h : stAddr (.insert t a ix x) e no κ = true) : no = true ∨ ∃ s N, a = .tmp s ∧ e.at s = .map N ∧ κ N = true := by
  have h : (opd a e fun p => iff (isCon 10 p) (rvMap p fun i => κ i) no) = true := h
  cases a with
  | tmp s =>
    have h : e.getK (.tup []) s (fun p => iff (isCon 10 p) (rvMap p fun i => κ i) no) = true := h
    rw [getK_eq] at h
    rcases iff_inv h with ⟨_, h1⟩ | ⟨_, h1⟩
    · obtain ⟨i, h2, h3⟩ := rvMap_inv h1
      exact .inr ⟨s, i, rfl, h2, h3⟩
    · exact .inl h1
  | global g =>
    have h : iff (Nat.blt g 1000000) (iff (isCon 10 (.glob g 0)) (rvMap (.glob g 0) fun i => κ i) no) false = true := h
    rcases iff_inv (iff_t h).2 with ⟨e1, _⟩ | ⟨_, h1⟩
    · exact absurd e1 (by simp [isCon, conN])
    · exact .inl h1
  | func f =>
    have h : iff (isCon 10 (.fn (.func f) [] [])) (rvMap (.fn (.func f) [] []) fun i => κ i) no = true := h
    rcases iff_inv h with ⟨e1, _⟩ | ⟨_, h1⟩
    · exact absurd e1 (by simp [isCon, conN])
    · exact .inl h1
  | const v =>
    obtain ⟨r, h1, hr⟩ := ofV_inv v (show ofV v (fun p => iff (isCon 10 p) (rvMap p fun i => κ i) no) = true from h)
    rcases iff_inv h1 with ⟨e1, h2⟩ | ⟨_, h2⟩
    · obtain ⟨i, rfl, _⟩ := rvMap_inv h2
      have h3 := hr (fun _ => none)
      simp [dec] at h3
    · exact .inl h2
end
end Go.L.Ev
namespace Go.L.Ev
open Go Go.RowKit
variable [Ext]
set_option linter.unusedSimpArgs false
set_option linter.unusedVariables false
section
variable {P : Program} {ty : TyT} {fu : FuT} {pcs : Option Nat → Prop}

/-- What a step goes on with. -/
def Goes (P : Program) (ty : TyT) (ops : Array Oper) (n : Nat) (pcs : Option Nat → Prop) (A : List Nat) (i : Nat) (o : Oper) (s : St) (ih : PT) (anc : List (List Nat)) (call : CallT) (κ : VE → Hp → Bool) : Prop :=
  ∃ kd r s', (∀ pc, pcs pc → Stp P ops n pc A i o s kd r s') ∧ (∀ q ∈ s'.pd, LookP P ty q.o) ∧ ih (i + 1) anc ops.toList n ty call s'.e s'.h s'.past s'.fl s'.pd κ = true
theorem putK_stp {dst : Option Tmp} {n : Nat} {v : RV} {e : VE} {κ : VE → Bool} (h : putK dst n v e κ = true) : ∃ e', κ e' = true ∧ EStep n dst v e e' := putK_inv h
theorem parE_ok (p : Pg P ty fu) {call : CallT} (hc : CallS P call) {ops : Array Oper} {n : Nat} {A : List Nat} {i : Nat} {o : Oper} {s : St} {ih : PT} {anc : List (List Nat)} {κ : VE → Hp → Bool} (hg : GYes ops o s.e) (hl : ∀ q ∈ s.pd, LookP P ty q.o)
    (hk : parE o ih A i anc ops.toList n ty call s.e s.h s.past s.fl s.pd κ = true) : Goes P ty ops n pcs A i o s ih anc call κ := by
  obtain ⟨h1, h2⟩ := iff_t hk
  obtain ⟨fl', hj, h3, hJ⟩ := flJoin_inv h2
  rcases evOp_ok p hc h3 with ⟨r, h', h4, hA⟩ | ⟨dv, h4, _⟩ | ⟨r, h', h4, _⟩
  · obtain ⟨h5, h6⟩ := iff_t h4
    obtain ⟨pd', h7, h8, h9⟩ := pdAgain_inv hl h6
    obtain ⟨e', h10, h11⟩ := putK_stp h7
    exact ⟨_, r, _, fun _ _ => .e hg h11 h1 hJ (noFl_inv h5) (.inl hA) h8 h9, fun q hq => hl q (h9 q hq), h10⟩
  · cases h4
  · cases h4
theorem parQ_ok {call : CallT} {ops : Array Oper} {n : Nat} {A : List Nat} {i : Nat} {o : Oper} {s : St} {ih : PT} {anc : List (List Nat)} {κ : VE → Hp → Bool} (hg : GYes ops o s.e) (hl : ∀ q ∈ s.pd, LookP P ty q.o) (h0 : Pure0 o.op) (H : LookP P ty o)
    (hk : parQ o ih i anc ops.toList n ty call s.e s.h s.past s.fl s.pd κ = true) : Goes P ty ops n pcs A i o s ih anc call κ := by
  obtain ⟨r, h1, hA⟩ := H _ _ _ _ _ _ (h0 ty call s.e s.h ⟨s.h.next, .lf⟩ _ _ _ hk)
  obtain ⟨e', h2, h3⟩ := putK_stp h1
  exact ⟨_, r, _, fun _ _ => .q hg h3 hA, hl, h2⟩
theorem parL_ok (p : Pg P ty fu) {call : CallT} (hc : CallS P call) {ops : Array Oper} {n : Nat} {A : List Nat} {i : Nat} {o : Oper} {s : St} {ih : PT} {anc : List (List Nat)} {κ : VE → Hp → Bool} (hg : GYes ops o s.e) (hl : ∀ q ∈ s.pd, LookP P ty q.o) (H : LookP P ty o)
    (hk : parL o ih A i anc ops.toList n ty call s.e s.h s.past s.fl s.pd κ = true) : Goes P ty ops n pcs A i o s ih anc call κ := by
  rcases iff_inv hk with ⟨_, h1⟩ | ⟨_, h1⟩
  · exact parE_ok p hc hg hl h1
  · obtain ⟨r, h2, hA⟩ := H _ _ _ _ _ _ h1
    obtain ⟨h3, h4⟩ := iff_t h2
    obtain ⟨h5, h6⟩ := lookPast_inv H h4
    obtain ⟨e', h7, h8⟩ := putK_stp h5
    refine ⟨_, r, _, fun _ _ => .l hg h8 hA h3 h6, fun q hq => ?_, h7⟩
    rcases List.mem_cons.1 hq with rfl | hq
    · exact H
    · exact hl q hq
theorem parM_ok {call : CallT} {ops : Array Oper} {n : Nat} {A : List Nat} {i : Nat} {o : Oper} {s : St} {ih : PT} {anc : List (List Nat)} {κ : VE → Hp → Bool} (hg : GYes ops o s.e) (hl : ∀ q ∈ s.pd, LookP P ty q.o)
    (H : ∀ call e h k kd kp, evOp o.op ty call e h k kd kp = true → ∃ ob mk h', k (mk h.next) h' = true ∧ h'.next = h.next + 1 ∧ h'.at h.next = ob ∧ (∀ j, j ≠ h.next → h'.at j = h.at j) ∧ AAns P o e ob mk)
    (hk : parM o ih i anc ops.toList n ty call s.e s.h s.past s.fl s.pd κ = true) : Goes P ty ops n pcs A i o s ih anc call κ := by
  obtain ⟨ob, mk, h1, h2, a1, a2, a3, hA⟩ := H _ _ _ _ _ _ hk
  rw [getK_eq] at h2
  obtain ⟨h', h3, b1, b2, b3⟩ := setO_inv h2
  obtain ⟨e', h4, h5⟩ := putK_stp h3
  have a2 : Tr.get .no h1.t s.h.next = ob := a2
  rw [a2] at h4
  exact ⟨_, _, _, fun _ _ => .m hg h5 (by rw [b1, a1]) b2 (fun j hj => by rw [b3 j hj, a3 j hj]) hA, hl, h4⟩
theorem evOp_store {t : TypeId} {a x : Operand} {call : CallT} {e : VE} {h : Hp} {k : K} {kd : DV → Bool} {kp : KP} : evOp (.store t a x) ty call e h k kd kp = oStore t a x ty call e h k kd kp := rfl
/-- Where a store goes. -/
theorem store_at {t : TypeId} {x : Operand} {s0 : Tmp} {e : VE} {N off i off' : Nat} (he : e.at s0 = .ptr N off) (h : ∀ δ E xs, EnvO δ e E xs → .tmp s0 ∈ xs → dec δ (.ptr i off') = some (ev E (.tmp s0))) : i = N := by
  have h1 := h (fun j => if j = N then some (0, 0) else none) (fun _ => .pointer (some ⟨0, off, none⟩)) #[.tmp s0] (fun u hu => by
    have : u = s0 := by simpa using hu
    subst this
    rw [he]; simp [dec]) (by simp)
  simp only [dec, Option.map_eq_some_iff] at h1
  obtain ⟨pp, h2, _⟩ := h1
  split at h2
  · assumption
  · cases h2
theorem map_at {s0 : Tmp} {e : VE} {N i : Nat} (he : e.at s0 = .map N) (h : ∀ δ E xs, EnvO δ e E xs → .tmp s0 ∈ xs → dec δ (.map i) = some (ev E (.tmp s0))) : i = N := by
  have h1 := h (fun j => if j = N then some (0, 0) else none) (fun _ => .map (some 0)) #[.tmp s0] (fun u hu => by
    have : u = s0 := by simpa using hu
    subst this
    rw [he]; simp [dec]) (by simp)
  simp only [dec, Option.map_eq_some_iff] at h1
  obtain ⟨pp, h2, _⟩ := h1
  split at h2
  · assumption
  · cases h2
def PtrTo (v : RV) (N : Nat) : Prop := (∃ off, v = .ptr N off) ∨ v = .map N
/-- One that changes a thing, and tells which. -/
def Sto (P : Program) (ty : TyT) (o : Oper) : Prop := ∃ a : Operand, (∀ e no κ, stAddr o.op e no κ = true → no = true ∨ ∃ s N, a = .tmp s ∧ PtrTo (e.at s) N ∧ κ N = true) ∧
  ∀ call e h k kd kp, evOp o.op ty call e h k kd kp = true → ∃ i ob' h', k undefR h' = true ∧ h.at i ≠ .no ∧ h'.next = h.next ∧ h'.at i = ob' ∧ (∀ j, j ≠ i → h'.at j = h.at j) ∧ SAns P o e i (h.at i) ob' ∧ ∀ s N, a = .tmp s → PtrTo (e.at s) N → i = N
theorem sto_of (p : Pg P ty fu) {o : Oper} (ho : (∃ t a x, o.op = .store t a x) ∨ ∃ t m ix x, o.op = .insert t m ix x) : Sto P ty o := by
  rcases ho with ⟨t, a, x, ho⟩ | ⟨t, m, ix, x, ho⟩
  · refine ⟨a, fun e no κ hk => ?_, fun call e h k kd kp hk => ?_⟩
    · rw [ho] at hk
      rcases stAddr_inv hk with h1 | ⟨s, N, off, h1, h2, h3⟩
      · exact .inl h1
      · exact .inr ⟨s, N, h1, .inl ⟨off, h2⟩, h3⟩
    · rw [ho] at hk
      obtain ⟨i, off', ob', h', b1, b2, b3, b4, b5, hA, haddr⟩ := oStore_ok (ty := ty) (call := call) (kd := kd) (kp := kp) p ho hk
      refine ⟨i, ob', h', b1, b2, b3, b4, b5, hA, fun s N ha hP => ?_⟩
      subst ha
      rcases hP with ⟨off, hP⟩ | hP
      · exact store_at (t := t) (x := x) hP haddr
      · have h1 := haddr (fun j => if j = N then some (0, 0) else none) (fun _ => .map (some 0)) #[.tmp s] (fun u hu => by
          have : u = s := by simpa using hu
          subst this
          rw [hP]; simp [dec]) (by simp)
        simp only [dec, Option.map_eq_some_iff] at h1
        obtain ⟨_, _, h2⟩ := h1
        simp [ev] at h2
  · refine ⟨m, fun e no κ hk => ?_, fun call e h k kd kp hk => ?_⟩
    · rw [ho] at hk
      rcases stAddrI_inv hk with h1 | ⟨s, N, h1, h2, h3⟩
      · exact .inl h1
      · exact .inr ⟨s, N, h1, .inr h2, h3⟩
    · rw [ho] at hk
      obtain ⟨i, ob, ob', h', b1, b2, b3, b4, b5, b6, hA, haddr⟩ := oUpd_at (ty := ty) (call := call) (kd := kd) (kp := kp) p (.inr ho) hk
      refine ⟨i, ob', h', b1, by rw [b2]; exact b3, b4, b5, b6, by rw [b2]; exact hA, fun s N ha hP => ?_⟩
      subst ha
      rcases hP with ⟨off, hP⟩ | hP
      · have h1 := haddr (fun j => if j = N then some (0, 0) else none) (fun _ => .pointer (some ⟨0, off, none⟩)) #[.tmp s] (fun u hu => by
          have : u = s := by simpa using hu
          subst this
          rw [hP]; simp [dec]) (by simp)
        simp only [dec, Option.map_eq_some_iff] at h1
        obtain ⟨_, _, h2⟩ := h1
        simp [ev] at h2
      · exact map_at hP haddr
theorem parT_ok (p : Pg P ty fu) {call : CallT} (hc : CallS P call) {ops : Array Oper} {n : Nat} {A : List Nat} {i N : Nat} {o : Oper} {s : St} {ih : PT} {anc : List (List Nat)} {κ : VE → Hp → Bool} (hg : GYes ops o s.e) (hl : ∀ q ∈ s.pd, LookP P ty q.o)
    (hW : ∀ call e h k kd kp, evOp o.op ty call e h k kd kp = true → ∃ i ob' h', k undefR h' = true ∧ h.at i ≠ .no ∧ h'.next = h.next ∧ h'.at i = ob' ∧ (∀ j, j ≠ i → h'.at j = h.at j) ∧ SAns P o e i (h.at i) ob' ∧ (e = s.e → i = N)) (hnf : ∀ f ∈ s.fl, f.N ≠ N)
    (hk : parT N o ih A i anc ops.toList n ty call s.e s.h s.past s.fl s.pd κ = true) : Goes P ty ops n pcs A i o s ih anc call κ := by
  obtain ⟨h1, h2⟩ := iff_t hk
  obtain ⟨j, ob', h3, h4, h5, h6, h7, h8, hA, haddr⟩ := hW _ _ _ _ _ _ h2
  have hj := haddr rfl
  subst hj
  rw [getK_eq] at h4
  obtain ⟨h', h9, b1, b2, b3⟩ := setO_inv h4
  rcases iff_inv h9 with ⟨e1, h10⟩ | ⟨_, h10⟩
  · obtain ⟨e', h11, h12⟩ := putK_stp h10
    have h7' : Tr.get .no h3.t j = ob' := h7
    rw [h7'] at h11
    exact ⟨_, _, _, fun _ _ => .t hg h12 h5 hnf h1 (by rw [b1, h6]) b2 (fun q hq => by rw [b3 q hq, h8 q hq]) (pdOk_inv hl e1) hA, hl, h11⟩
  · exact parE_ok p hc hg hl h10
theorem parS_ok (p : Pg P ty fu) {call : CallT} (hc : CallS P call) {ops : Array Oper} {n : Nat} {A : List Nat} {i : Nat} {o : Oper} {s : St} {ih : PT} {anc : List (List Nat)} {κ : VE → Hp → Bool} (hg : GYes ops o s.e) (hl : ∀ q ∈ s.pd, LookP P ty q.o)
    (ho : (∃ t a x, o.op = .store t a x) ∨ ∃ t m ix x, o.op = .insert t m ix x)
    (hk : parS o ih A i anc ops.toList n ty call s.e s.h s.past s.fl s.pd κ = true) : Goes P ty ops n pcs A i o s ih anc call κ := by
  unfold parS at hk
  obtain ⟨a, hS1, hS2⟩ := sto_of p ho
  rcases hS1 _ _ _ hk with h1 | ⟨s0, N, rfl, hat, h1⟩
  · exact parE_ok p hc hg hl h1
  · rcases flFind_inv h1 with ⟨h2, hnf⟩ | ⟨pre, f, post, hfl, hN, h2⟩
    · refine parT_ok p hc hg hl (fun call e h k kd kp hk => ?_) hnf h2
      obtain ⟨i, ob', h', b1, b2, b3, b4, b5, b6, b7⟩ := hS2 call e h k kd kp hk
      exact ⟨i, ob', h', b1, b2, b3, b4, b5, b6, fun he => b7 s0 N rfl (by rw [he]; exact hat)⟩
    · subst hN
      obtain ⟨e1, h3⟩ := iff_t h2
      obtain ⟨h1', h4, a1, a2, a3⟩ := setO_inv h3
      obtain ⟨j, ob', h5, h6, h7, h8, h9, h10, hA, haddr⟩ := hS2 _ _ _ _ _ _ h4
      have hj := haddr s0 _ rfl hat
      subst hj
      rw [getK_eq] at h6
      obtain ⟨h', h11, b1, b2, b3⟩ := setO_inv h6
      obtain ⟨e', h12, h13⟩ := putK_stp h11
      have h9' : Tr.get .no h5.t f.N = ob' := h9
      rw [h9'] at h12
      rw [a2] at hA h7
      exact ⟨_, _, _, fun _ _ => .s hg h13 hfl (allIn_inv e1) h7 (by rw [b1, h8, a1]) b2 (fun q hq => by rw [b3 q hq, h10 q hq, a3 q hq]) hA, hl, h12⟩
/-- The operation that panics. -/
def PanF (P : Program) (ops : Array Oper) (A : List Nat) (o : Oper) (s : St) (k : Kd) (r : RV) (s' : St) : Prop :=
  ∃ hj, GYes ops o s.e ∧ lcOk s.past A = true ∧ Join A s.fl s.h s'.fl hj ∧ k = .e (s'.fl.map (·.N)) ∧ PAns P o s.e hj r s'.h
theorem parE2_ok (p : Pg P ty fu) {call : CallT} (hc : CallS P call) {ops : Array Oper} {n : Nat} {A : List Nat} {i : Nat} {o : Oper} {s : St} {ih : PT} {κp : RV → Hp → Bool} {tl : List Oper} {anc : List (List Nat)} {κ : VE → Hp → Bool} (hg : GYes ops o s.e) (hl : ∀ q ∈ s.pd, LookP P ty q.o)
    (hk : parE2 κp tl o ih A i anc ops.toList n ty call s.e s.h s.past s.fl s.pd κ = true) : Goes P ty ops n pcs A i o s ih anc call κ ∨
      ∃ kd r s', PanF P ops A o s kd r s' ∧ Stp P ops n (some i) A i o s kd r s' ∧ (∀ q ∈ s'.pd, LookP P ty q.o) ∧ evParD i tl (i + 1) anc ops.toList n ty call s'.e s'.h s'.past s'.fl s'.pd (fun _ _ => κp r s'.h) = true := by
  obtain ⟨h1, h2⟩ := iff_t hk
  obtain ⟨fl', hj, h3, hJ⟩ := flJoin_inv h2
  rcases evOp_ok p hc h3 with ⟨r, h', h4, hA⟩ | ⟨dv, h4, _⟩ | ⟨r, h', h4, hA⟩
  · obtain ⟨h5, h6⟩ := iff_t h4
    obtain ⟨pd', h7, h8, h9⟩ := pdAgain_inv hl h6
    obtain ⟨e', h10, h11⟩ := putK_stp h7
    exact .inl ⟨_, r, _, fun _ _ => .e hg h11 h1 hJ (noFl_inv h5) (.inl hA) h8 h9, fun q hq => hl q (h9 q hq), h10⟩
  · cases h4
  · obtain ⟨h5, h6⟩ := iff_t h4
    obtain ⟨pd', h7, h8, h9⟩ := pdAgain_inv hl h6
    obtain ⟨e', h10, h11⟩ := putK_stp h7
    exact .inr ⟨.e (fl'.map (·.N)), r, { h := h', e := e', fl := fl', past := (i, s.h) :: s.past, pd := pd' }, ⟨hj, hg, h1, hJ, rfl, hA⟩, .e hg h11 h1 hJ (noFl_inv h5) (.inr ⟨rfl, hA.1⟩) h8 h9, fun q hq => hl q (h9 q hq), h10⟩
theorem evParD_stp (p : Pg P ty fu) {call : CallT} (hc : CallS P call) {ops : Array Oper} {n : Nat} {c : Nat} {κ : VE → Hp → Bool} : ∀ (l : List Oper) (i : Nat) (anc : List (List Nat)) (s : St), (∀ q ∈ s.pd, LookP P ty q.o) →
    evParD c l i anc ops.toList n ty call s.e s.h s.past s.fl s.pd κ = true →
    ∃ (st : Nat → St) (kd : Nat → Kd) (r : Nat → RV), st 0 = s ∧ (∀ j o, l[j]? = some o → ∃ A, anc[j]? = some A ∧ Stp P ops n (some c) A (i + j) o (st j) (kd j) (r j) (st (j + 1))) ∧ ∃ e h, κ e h = true
  | [], i, anc, s, hl, hk => by
    obtain ⟨hF, h1, h2⟩ := flAll_inv (show flAll s.fl s.h (fun h => κ s.e h) = true from hk)
    exact ⟨fun _ => s, fun _ => .q, fun _ => .skp, rfl, fun c o h => by simp at h, _, _, h1⟩
  | o :: l, i, anc, s, hl, hk => by
    cases anc with
    | nil => exact absurd (show false = true from hk) (by decide)
    | cons A anc =>
      have hk : iff (memN A c) (iff (Nat.beq i c) false (putK o.dst n .skp s.e fun e' => evParD c l (i + 1) anc ops.toList n ty call e' s.h s.past s.fl s.pd κ)) (guardK o.guard ops.toList s.e (clsK ty o.op fun k => parC k o (evParD c l) A i anc ops.toList n ty call s.e s.h s.past s.fl s.pd κ)
        (putK o.dst n .skp s.e fun e' => evParD c l (i + 1) anc ops.toList n ty call e' s.h s.past s.fl s.pd κ)) = true := hk
      have goes : Goes P ty ops n (· = some c) A i o s (evParD c l) anc call κ := by
        rcases iff_inv hk with ⟨hm, h0⟩ | ⟨_, hk⟩
        · obtain ⟨hne, h1⟩ := iff_f h0
          have hic : i ≠ c := fun e => by rw [e] at hne; simp at hne
          obtain ⟨e', h2, h3⟩ := putK_stp h1
          exact ⟨_, _, _, fun pc hpc => .skip (.inr ⟨c, hpc, hic, hm⟩) h3, hl, h2⟩
        · rcases guardK_par hk with ⟨h1, hg⟩ | ⟨h1, hg⟩
          · rcases clsK_inv p h1 with ⟨h2, h3, h4⟩ | ⟨h2, h3⟩ | ⟨h2, h3⟩ | ⟨h2, h3⟩ | h2
            · exact parQ_ok hg hl h3 (fun call e h k kd kp hk => h4 o call e h k kd kp rfl hk) h2
            · exact parL_ok p hc hg hl (fun call e h k kd kp hk => h3 o call e h k kd kp rfl hk) h2
            · exact parM_ok hg hl (fun call e h k kd kp hk => h3 o call e h k kd kp rfl hk) h2
            · exact parS_ok p hc hg hl h3 h2
            · exact parE_ok p hc hg hl h2
          · obtain ⟨e', h2, h3⟩ := putK_stp h1
            exact ⟨_, _, _, fun _ _ => .skip (.inl hg) h3, hl, h2⟩
      obtain ⟨kd0, r0, s', hS, hl', hk'⟩ := goes
      obtain ⟨st, kd, r, h0, hst, hF⟩ := evParD_stp p hc l (i + 1) anc s' hl' hk'
      refine ⟨fun c => match c with | 0 => s | c + 1 => st c, fun c => match c with | 0 => kd0 | c + 1 => kd c, fun c => match c with | 0 => r0 | c + 1 => r c, rfl, fun j o' ho' => ?_, hF⟩
      cases j with
      | zero =>
        simp at ho'
        subst ho'
        refine ⟨A, rfl, ?_⟩
        show Stp P ops n (some c) A (i + 0) o s kd0 r0 (st 0)
        rw [h0]; exact hS _ rfl
      | succ j =>
        obtain ⟨A', hA', hS'⟩ := hst j o' (by simpa using ho')
        refine ⟨A', by simpa using hA', ?_⟩
        show Stp P ops n (some c) A' (i + (j + 1)) o' (st j) (kd j) (r j) (st (j + 1))
        rw [show i + (j + 1) = i + 1 + j by omega]; exact hS'
/-- All operations, or one panics. -/
theorem evPar_stp (p : Pg P ty fu) {call : CallT} (hc : CallS P call) {ops : Array Oper} {n : Nat} {κp : RV → Hp → Bool} {κ : VE → Hp → Bool} : ∀ (l : List Oper) (i : Nat) (anc : List (List Nat)) (s : St), (∀ q ∈ s.pd, LookP P ty q.o) →
    evPar κp l i anc ops.toList n ty call s.e s.h s.past s.fl s.pd κ = true →
    ∃ (pc : Option Nat) (st : Nat → St) (kd : Nat → Kd) (r : Nat → RV), st 0 = s ∧ (∀ c o, l[c]? = some o → ∃ A, anc[c]? = some A ∧ Stp P ops n pc A (i + c) o (st c) (kd c) (r c) (st (c + 1))) ∧
      ((pc = none ∧ ∃ hF, FAll (st l.length).fl (st l.length).h hF ∧ κ (st l.length).e hF = true) ∨
      ∃ c o A, pc = some (i + c) ∧ l[c]? = some o ∧ anc[c]? = some A ∧ PanF P ops A o (st c) (kd c) (r c) (st (c + 1)) ∧ κp (r c) (st (c + 1)).h = true)
  | [], i, anc, s, hl, hk => by
    obtain ⟨hF, h1, h2⟩ := flAll_inv (show flAll s.fl s.h (fun h => κ s.e h) = true from hk)
    exact ⟨none, fun _ => s, fun _ => .q, fun _ => .skp, rfl, fun c o h => by simp at h, .inl ⟨rfl, hF, h2, h1⟩⟩
  | o :: l, i, anc, s, hl, hk => by
    cases anc with
    | nil => exact absurd (show false = true from hk) (by decide)
    | cons A anc =>
      have hk : guardK o.guard ops.toList s.e (clsK ty o.op fun c => parC2 κp l c o (evPar κp l) A i anc ops.toList n ty call s.e s.h s.past s.fl s.pd κ)
        (putK o.dst n .skp s.e fun e' => evPar κp l (i + 1) anc ops.toList n ty call e' s.h s.past s.fl s.pd κ) = true := hk
      have goes : Goes P ty ops n (fun _ => True) A i o s (evPar κp l) anc call κ ∨
          ∃ kd r s', PanF P ops A o s kd r s' ∧ Stp P ops n (some i) A i o s kd r s' ∧ (∀ q ∈ s'.pd, LookP P ty q.o) ∧ evParD i l (i + 1) anc ops.toList n ty call s'.e s'.h s'.past s'.fl s'.pd (fun _ _ => κp r s'.h) = true := by
        rcases guardK_par hk with ⟨h1, hg⟩ | ⟨h1, hg⟩
        · rcases clsK_inv p h1 with ⟨h2, h3, h4⟩ | ⟨h2, h3⟩ | ⟨h2, h3⟩ | ⟨h2, h3⟩ | h2
          · exact .inl (parQ_ok hg hl h3 (fun call e h k kd kp hk => h4 o call e h k kd kp rfl hk) h2)
          · exact .inl (parL_ok p hc hg hl (fun call e h k kd kp hk => h3 o call e h k kd kp rfl hk) h2)
          · exact .inl (parM_ok hg hl (fun call e h k kd kp hk => h3 o call e h k kd kp rfl hk) h2)
          · exact .inl (parS_ok p hc hg hl h3 h2)
          · exact parE2_ok p hc hg hl h2
        · obtain ⟨e', h2, h3⟩ := putK_stp h1
          exact .inl ⟨_, _, _, fun _ _ => .skip (.inl hg) h3, hl, h2⟩
      rcases goes with ⟨kd0, r0, s', hS, hl', hk'⟩ | ⟨kd0, r0, s', hPF, hS, hl', hk'⟩
      · obtain ⟨pc, st, kd, r, h0, hst, hfin⟩ := evPar_stp p hc l (i + 1) anc s' hl' hk'
        refine ⟨pc, fun c => match c with | 0 => s | c + 1 => st c, fun c => match c with | 0 => kd0 | c + 1 => kd c, fun c => match c with | 0 => r0 | c + 1 => r c, rfl, fun c o' ho' => ?_, ?_⟩
        · cases c with
          | zero =>
            simp at ho'
            subst ho'
            refine ⟨A, rfl, ?_⟩
            show Stp P ops n pc A (i + 0) o s kd0 r0 (st 0)
            rw [h0]; exact hS _ trivial
          | succ c =>
            obtain ⟨A', hA', hS'⟩ := hst c o' (by simpa using ho')
            refine ⟨A', by simpa using hA', ?_⟩
            show Stp P ops n pc A' (i + (c + 1)) o' (st c) (kd c) (r c) (st (c + 1))
            rw [show i + (c + 1) = i + 1 + c by omega]; exact hS'
        · rcases hfin with ⟨h1, hF, h2, h3⟩ | ⟨c, o', A', h1, h2, h3, h4, h5⟩
          · exact .inl ⟨h1, hF, h2, h3⟩
          · exact .inr ⟨c + 1, o', A', by rw [h1, show i + (c + 1) = i + 1 + c by omega], by simpa using h2, by simpa using h3, h4, h5⟩
      · obtain ⟨st, kd, r, h0, hst, _, _, hκ⟩ := evParD_stp p hc l (i + 1) anc s' hl' hk'
        refine ⟨some i, fun c => match c with | 0 => s | c + 1 => st c, fun c => match c with | 0 => kd0 | c + 1 => kd c, fun c => match c with | 0 => r0 | c + 1 => r c, rfl, fun c o' ho' => ?_, .inr ⟨0, o, A, rfl, rfl, rfl, ?_, ?_⟩⟩
        · cases c with
          | zero =>
            simp at ho'
            subst ho'
            refine ⟨A, rfl, ?_⟩
            show Stp P ops n (some i) A (i + 0) o s kd0 r0 (st 0)
            rw [h0]; exact hS
          | succ c =>
            obtain ⟨A', hA', hS'⟩ := hst c o' (by simpa using ho')
            refine ⟨A', by simpa using hA', ?_⟩
            show Stp P ops n (some i) A' (i + (c + 1)) o' (st c) (kd c) (r c) (st (c + 1))
            rw [show i + (c + 1) = i + 1 + c by omega]; exact hS'
        · show PanF P ops A o s kd0 r0 (st 0)
          rw [h0]; exact hPF
        · show κp r0 (st 0).h = true
          rw [h0]; exact hκ
end
end Go.L.Ev
namespace Go.L.Ev
open Go Go.RowKit
variable [Ext]
set_option linter.unusedSimpArgs false
set_option linter.unusedVariables false

/-- Who is done has those behind him whom he waits for. -/
def wt (D : List (List Nat)) (i c : Nat) : Prop := ∀ S : Nat → Bool, Clo D S → S i = true → S c = true
def isE (kd : Nat → Kd) (c : Nat) : Prop := ∃ fl, kd c = .e fl
def isT (kd : Nat → Kd) (c : Nat) : Prop := ∃ N a b, kd c = .t N a b
def touch (st : Nat → St) (kd : Nat → Kd) (c N : Nat) : Prop := match kd c with
  | .q => False
  | .l => False
  | .m N' _ => N = N'
  | .s N' _ _ => N = N'
  | .t N' _ _ => N = N'
  | .e fl => N ∉ fl ∧ N < (st (c + 1)).h.next
instance (st : Nat → St) (kd : Nat → Kd) (c N : Nat) : Decidable (touch st kd c N) := by
  unfold touch
  split <;> infer_instance
/-- What a step makes of what it touches. -/
noncomputable def newv (st : Nat → St) (kd : Nat → Kd) (c N : Nat) : Ob := match kd c with
  | .m _ ob => ob
  | .s _ _ ob => ob
  | .t _ _ ob => ob
  | _ => (st (c + 1)).h.at N
/-- What stands at a number when those of S are done. -/
noncomputable def stt (st : Nat → St) (kd : Nat → Kd) (S : Nat → Bool) (N : Nat) : Nat → Ob × Nat
  | 0 => ((st 0).h.at N, (st 0).h.next)
  | j + 1 => if S j = true ∧ touch st kd j N then (newv st kd j N, (st (j + 1)).h.next) else stt st kd S N j

section
variable {st : Nat → St} {kd : Nat → Kd} {S S' : Nat → Bool} {N c : Nat}
theorem stt_skip (h : ¬ touch st kd c N) : stt st kd S N (c + 1) = stt st kd S N c := by simp [stt, h]
theorem stt_off (h : S c = false) : stt st kd S N (c + 1) = stt st kd S N c := by simp [stt, h]
theorem stt_on (h : S c = true) (ht : touch st kd c N) : stt st kd S N (c + 1) = (newv st kd c N, (st (c + 1)).h.next) := by simp [stt, h, ht]
theorem stt_congr {a : Nat} : ∀ (b : Nat), a ≤ b → stt st kd S N a = stt st kd S' N a → (∀ c, a ≤ c → c < b → touch st kd c N → S c = S' c) → stt st kd S N b = stt st kd S' N b
  | 0, hab, h, _ => by have : a = 0 := by omega
                       subst this; exact h
  | b + 1, hab, h, hc => by
    rcases Nat.lt_or_ge b a with h1 | h1
    · have : a = b + 1 := by omega
      subst this; exact h
    · have ih := stt_congr b h1 h (fun c h1 h2 => hc c h1 (by omega))
      by_cases ht : touch st kd b N
      · have := hc b h1 (by omega) ht
        simp only [stt, this, ih]
      · rw [stt_skip ht, stt_skip ht, ih]
end
theorem wt_trans {D : List (List Nat)} {a b c : Nat} (h : wt D a b) (k : wt D b c) : wt D a c := fun S hS hi => k S hS (h S hS hi)

section
variable {P : Program} {ty : TyT} {fu : FuT} {ops : Array Oper} {n : Nat} {pc : Option Nat} {D : List (List Nat)} {m : Nat} {st : Nat → St} {kd : Nat → Kd} {r : Nat → RV}

/-- An evaluation, step by step. -/
structure Trc (P : Program) (ops : Array Oper) (n : Nat) (pc : Option Nat) (D : List (List Nat)) (m : Nat) (st : Nat → St) (kd : Nat → Kd) (r : Nat → RV) : Prop where
  fl0 : (st 0).fl = []
  past0 : (st 0).past = []
  pd0 : (st 0).pd = []
  fresh0 : (st 0).h.fresh
  stp : ∀ c, c < m → ∃ o A, ops[c]? = some o ∧ Stp P ops n pc A c o (st c) (kd c) (r c) (st (c + 1)) ∧ ∀ u, memN A u = true → wt D c u
  pan : ∀ c, pc = some c → c < m → ∃ o A, ops[c]? = some o ∧ (∀ u, memN A u = true → wt D c u) ∧ PanF P ops A o (st c) (kd c) (r c) (st (c + 1))

theorem Join.facts {A : List Nat} {fl fl' : List Fl} {h hj : Hp} (J : Join A fl h fl' hj) (hn : (fl.map (·.N)).Nodup) :
    hj.next = h.next ∧ (∀ f ∈ fl, f ∈ fl' ∨ ((∀ u ∈ f.st, memN A u = true) ∧ hj.at f.N = f.ob ∧ f.N ∉ fl'.map (·.N))) ∧ fl'.Sublist fl ∧ (∀ N, N ∉ fl.map (·.N) → hj.at N = h.at N) ∧ ∀ f ∈ fl', hj.at f.N = h.at f.N := by
  induction J with
  | nil => exact ⟨rfl, fun f hf => (by cases hf), List.Sublist.refl _, fun _ _ => rfl, fun f hf => (by cases hf)⟩
  | in_ hst hn1 hat hold t ih =>
    rename_i f fl fl' h h1 hj
    simp only [List.map_cons, List.nodup_cons] at hn
    obtain ⟨i1, i2, i3, i4, i5⟩ := ih hn.2
    have hsub : ∀ N, N ∈ fl'.map (·.N) → N ∈ fl.map (·.N) := fun N hN => (i3.map _).subset hN
    have hf : hj.at f.N = f.ob := by rw [i4 f.N hn.1]; exact hat
    refine ⟨i1.trans hn1, fun g hg => ?_, i3.cons _, fun N hN => ?_, fun g hg => ?_⟩
    · rcases List.mem_cons.1 hg with rfl | hg
      · exact .inr ⟨hst, hf, fun hh => hn.1 (hsub _ hh)⟩
      · exact i2 g hg
    · simp only [List.map_cons, List.mem_cons, not_or] at hN
      rw [i4 N hN.2, hold N hN.1]
    · rw [i5 g hg]
      exact hold _ fun e => hn.1 (by rw [← e]; exact hsub _ (List.mem_map.2 ⟨g, hg, rfl⟩))
  | out t ih =>
    rename_i f fl fl' h hj
    simp only [List.map_cons, List.nodup_cons] at hn
    obtain ⟨i1, i2, i3, i4, i5⟩ := ih hn.2
    refine ⟨i1, fun g hg => ?_, i3.cons_cons _, fun N hN => ?_, fun g hg => ?_⟩
    · rcases List.mem_cons.1 hg with rfl | hg
      · exact .inl (List.mem_cons_self ..)
      · rcases i2 g hg with h1 | ⟨h1, h2, h3⟩
        · exact .inl (List.mem_cons_of_mem _ h1)
        · refine .inr ⟨h1, h2, ?_⟩
          simp only [List.map_cons, List.mem_cons, not_or]
          exact ⟨fun e => hn.1 (by rw [← e]; exact List.mem_map.2 ⟨g, hg, rfl⟩), h3⟩
    · simp only [List.map_cons, List.mem_cons, not_or] at hN
      exact i4 N hN.2
    · rcases List.mem_cons.1 hg with rfl | hg
      · exact i4 _ hn.1
      · exact i5 g hg

/-- What is known ahead of a step. -/
structure Inv0 (P : Program) (ops : Array Oper) (D : List (List Nat)) (st : Nat → St) (kd : Nat → Kd) (r : Nat → RV) (c : Nat) : Prop where
  fresh : (st c).h.fresh
  nx : ∀ j, j ≤ c → (st j).h.next ≤ (st c).h.next
  nodup : ((st c).fl.map (·.N)).Nodup
  flt : ∀ f ∈ (st c).fl, f.N < (st c).h.next ∧ (st c).h.at f.N = .no
  past : ∃ cs : List Nat, (st c).past = cs.map (fun j => (j, (st j).h)) ∧ cs.Pairwise (· > ·) ∧ ∀ j, j ∈ cs ↔ (j < c ∧ isE kd j)
  chain : ∀ a b, a < b → b < c → isE kd a → isE kd b → wt D b a
  to : ∀ N a b, a < b → b < c → touch st kd a N → touch st kd b N → wt D b a
  can : ∀ N, (st c).h.at N ≠ .no → (stt st kd (fun _ => true) N c).1 = (st c).h.at N
  flcan : ∀ f ∈ (st c).fl, (stt st kd (fun _ => true) f.N c).1 = f.ob ∧ ∀ a, a < c → touch st kd a f.N → ∀ S, Clo D S → (∀ u ∈ f.st, S u = true) → S a = true
  joined : ∀ N a, a < c → ¬ isE kd a → touch st kd a N → N ∉ (st c).fl.map (·.N) → ∃ b, a < b ∧ b < c ∧ isE kd b ∧ touch st kd b N
  taken : ∀ N j, j ≤ c → N ∈ (st c).fl.map (·.N) → N ∉ (st j).fl.map (·.N) → N < (st j).h.next → ∃ u, j ≤ u ∧ u < c ∧ ∃ x y, kd u = .t N x y
  pd : ∀ l, l < c → kd l = .l → ∀ o, ops[l]? = some o → (∃ p ∈ (st c).pd, p.i = l ∧ p.o = o ∧ p.e = (st l).e ∧ p.r = r l) ∨ ∃ b, l < b ∧ b < c ∧ isE kd b ∧ wt D b l
  looks : ∀ l b, l < b → b < c → kd l = .l → (isE kd b ∨ isT kd b) → ∀ o, ops[l]? = some o → wt D b l ∨ QAns P o (st l).e (st (b + 1)).h (r l)
  bound : ∀ N S, (stt st kd S N c).2 ≤ (st c).h.next

variable {c : Nat}
theorem Inv0.lc (H : Inv0 P ops D st kd r c) {A : List Nat} (hA : ∀ u, memN A u = true → wt D c u) (hl : lcOk (st c).past A = true) : ∀ a, a < c → isE kd a → wt D c a := by
  intro a hac hE
  obtain ⟨cs, h1, h2, h3⟩ := H.past
  have ha := (h3 a).2 ⟨hac, hE⟩
  cases cs with
  | nil => cases ha
  | cons c0 cs =>
    rw [h1] at hl
    have hl : memN A c0 = true := hl
    have h4 := (h3 c0).1 (List.mem_cons_self ..)
    rcases List.mem_cons.1 ha with rfl | ha
    · exact hA _ hl
    · have : c0 > a := (List.pairwise_cons.1 h2).1 a ha
      exact wt_trans (hA _ hl) (H.chain a c0 this h4.1 hE h4.2)
/-- What was read stays so, or is waited for. -/
theorem Inv0.seen (H : Inv0 P ops D st kd r c) {A : List Nat} (hA : ∀ u, memN A u = true → wt D c u) (hl : lcOk (st c).past A = true) {h' : Hp} (hp : ∀ p ∈ (st c).pd, memN A p.i = true ∨ QAns P p.o p.e h' p.r) :
    ∀ l, l < c → kd l = .l → ∀ o, ops[l]? = some o → wt D c l ∨ QAns P o (st l).e h' (r l) := by
  intro l hlc hk o ho
  rcases H.pd l hlc hk o ho with ⟨p, hpm, rfl, rfl, h3, h4⟩ | ⟨b, h1, h2, h3, h4⟩
  · rcases hp p hpm with h5 | h5
    · exact .inl (hA _ h5)
    · rw [h3, h4] at h5; exact .inr h5
  · exact .inl (wt_trans (H.lc hA hl b h2 h3) h4)
/-- A step that touches nothing. -/
theorem Inv0.idle (H : Inv0 P ops D st kd r c) (hk : kd c = .q ∨ kd c = .l) (hh : (st (c + 1)).h = (st c).h) (hf : (st (c + 1)).fl = (st c).fl) (hp : (st (c + 1)).past = (st c).past)
    (hpd : ∀ p ∈ (st c).pd, p ∈ (st (c + 1)).pd) (hnew : kd c = .l → ∀ o, ops[c]? = some o → ∃ p ∈ (st (c + 1)).pd, p.i = c ∧ p.o = o ∧ p.e = (st c).e ∧ p.r = r c) : Inv0 P ops D st kd r (c + 1) := by
  have hnt : ∀ N, ¬ touch st kd c N := fun N => by unfold touch; rcases hk with hk | hk <;> rw [hk] <;> exact id
  have hnE : ¬ isE kd c := fun ⟨fl, h⟩ => by rcases hk with hk | hk <;> (rw [hk] at h; cases h)
  have hnT : ¬ isT kd c := fun ⟨_, _, _, h⟩ => by rcases hk with hk | hk <;> (rw [hk] at h; cases h)
  have lt : ∀ {a}, a < c + 1 → a = c ∨ a < c := fun h => by omega
  constructor
  · rw [hh]; exact H.fresh
  · intro j hj; rw [hh]
    rcases Nat.lt_or_ge c j with h1 | h1
    · rw [show j = c + 1 by omega, hh]; exact Nat.le_refl _
    · exact H.nx j h1
  · rw [hf]; exact H.nodup
  · rw [hf, hh]; exact H.flt
  · obtain ⟨cs, h1, h2, h3⟩ := H.past
    refine ⟨cs, by rw [hp, h1], h2, fun j => ⟨fun h => ⟨by have := ((h3 j).1 h).1; omega, ((h3 j).1 h).2⟩, fun ⟨h4, h5⟩ => ?_⟩⟩
    rcases lt h4 with rfl | h4
    · exact absurd h5 hnE
    · exact (h3 j).2 ⟨h4, h5⟩
  · intro a b hab hb ha hE
    rcases lt hb with rfl | hb
    · exact absurd hE hnE
    · exact H.chain a b hab hb ha hE
  · intro N a b hab hb ha ht
    rcases lt hb with rfl | hb
    · exact absurd ht (hnt N)
    · exact H.to N a b hab hb ha ht
  · intro N hN; rw [stt_skip (hnt N)]; rw [hh] at hN ⊢; exact H.can N hN
  · intro f hf'
    rw [hf] at hf'
    rw [stt_skip (hnt _)]
    obtain ⟨h1, h2⟩ := H.flcan f hf'
    refine ⟨h1, fun a ha ht => ?_⟩
    rcases lt ha with rfl | ha
    · exact absurd ht (hnt _)
    · exact h2 a ha ht
  · intro N a ha hna ht hno
    rw [hf] at hno
    rcases lt ha with rfl | ha
    · exact absurd ht (hnt _)
    · obtain ⟨b, h1, h2, h3⟩ := H.joined N a ha hna ht hno
      exact ⟨b, h1, by omega, h3⟩
  · intro N j hj hN hno hlt
    rw [hf] at hN
    rcases Nat.lt_or_ge c j with h1 | h1
    · rw [show j = c + 1 by omega, hf] at hno; exact absurd hN hno
    · obtain ⟨u, h2, h3, h4⟩ := H.taken N j h1 hN hno hlt
      exact ⟨u, h2, by omega, h4⟩
  · intro l hl hkl o ho
    rcases lt hl with rfl | hl
    · exact .inl (hnew hkl o ho)
    · rcases H.pd l hl hkl o ho with ⟨p, h1, h2⟩ | ⟨b, h1, h2, h3⟩
      · exact .inl ⟨p, hpd p h1, h2⟩
      · exact .inr ⟨b, h1, by omega, h3⟩
  · intro l b hlb hb hkl hE o ho
    rcases lt hb with rfl | hb
    · rcases hE with hE | hE
      · exact absurd hE hnE
      · exact absurd hE hnT
    · exact H.looks l b hlb hb hkl hE o ho
  · intro N S; rw [stt_skip (hnt N), hh]; exact H.bound N S
/-- A step that touches one thing. -/
theorem Inv0.one (H : Inv0 P ops D st kd r c) {N0 : Nat} {g : Fl} (hg : g.N = N0) (hgs : c ∈ g.st) (htc : ∀ N, touch st kd c N ↔ N = N0) (hnv : newv st kd c N0 = g.ob) (hnE : ¬ isE kd c) (hnl : kd c ≠ .l)
    (hm : ∀ f, f ∈ (st (c + 1)).fl ↔ f = g ∨ (f ∈ (st c).fl ∧ f.N ≠ N0)) (hnd : ((st (c + 1)).fl.map (·.N)).Nodup) (hfr : (st (c + 1)).h.fresh) (hnx : (st c).h.next ≤ (st (c + 1)).h.next) (hlt : N0 < (st (c + 1)).h.next)
    (hat : (st (c + 1)).h.at N0 = .no) (hold : ∀ j, j ≠ N0 → (st (c + 1)).h.at j = (st c).h.at j) (hto : ∀ a, a < c → touch st kd a N0 → wt D c a) (hp : (st (c + 1)).past = (st c).past) (hpd : (st (c + 1)).pd = (st c).pd)
    (htk : ∀ j, j ≤ c → N0 ∉ (st j).fl.map (·.N) → N0 < (st j).h.next → N0 ∈ (st c).fl.map (·.N) ∨ ∃ x y, kd c = .t N0 x y)
    (hlk : isT kd c → ∀ l, l < c → kd l = .l → ∀ o, ops[l]? = some o → wt D c l ∨ QAns P o (st l).e (st (c + 1)).h (r l)) : Inv0 P ops D st kd r (c + 1) := by
  have lt : ∀ {a}, a < c + 1 → a = c ∨ a < c := fun h => by omega
  have hin : N0 ∈ (st (c + 1)).fl.map (·.N) := List.mem_map.2 ⟨g, (hm g).2 (.inl rfl), hg⟩
  have hmem : ∀ N, N ≠ N0 → (N ∈ (st (c + 1)).fl.map (·.N) ↔ N ∈ (st c).fl.map (·.N)) := fun N hN => by
    constructor
    · intro h
      obtain ⟨f, h1, h2⟩ := List.mem_map.1 h
      rcases (hm f).1 h1 with rfl | ⟨h3, _⟩
      · exact absurd (h2.symm.trans hg) hN
      · exact List.mem_map.2 ⟨f, h3, h2⟩
    · intro h
      obtain ⟨f, h1, h2⟩ := List.mem_map.1 h
      exact List.mem_map.2 ⟨f, (hm f).2 (.inr ⟨h1, by rw [h2]; exact hN⟩), h2⟩
  constructor
  · exact hfr
  · intro j hj
    rcases Nat.lt_or_ge c j with h1 | h1
    · rw [show j = c + 1 by omega]; exact Nat.le_refl _
    · exact Nat.le_trans (H.nx j h1) hnx
  · exact hnd
  · intro f hf
    rcases (hm f).1 hf with rfl | ⟨h1, h2⟩
    · rw [hg]; exact ⟨hlt, hat⟩
    · obtain ⟨h3, h4⟩ := H.flt f h1
      exact ⟨by omega, by rw [hold _ h2]; exact h4⟩
  · obtain ⟨cs, h1, h2, h3⟩ := H.past
    refine ⟨cs, by rw [hp, h1], h2, fun j => ⟨fun h => ⟨by have := ((h3 j).1 h).1; omega, ((h3 j).1 h).2⟩, fun ⟨h4, h5⟩ => ?_⟩⟩
    rcases lt h4 with rfl | h4
    · exact absurd h5 hnE
    · exact (h3 j).2 ⟨h4, h5⟩
  · intro a b hab hb ha hE
    rcases lt hb with rfl | hb
    · exact absurd hE hnE
    · exact H.chain a b hab hb ha hE
  · intro N a b hab hb ha ht
    rcases lt hb with rfl | hb
    · cases (htc N).1 ht; exact hto a hab ha
    · exact H.to N a b hab hb ha ht
  · intro N hN
    by_cases hNN : N = N0
    · rw [hNN, hat] at hN; exact absurd rfl hN
    · rw [stt_skip (fun h => hNN ((htc N).1 h))]; rw [hold N hNN] at hN ⊢; exact H.can N hN
  · intro f hf
    rcases (hm f).1 hf with rfl | ⟨h1, h2⟩
    · rw [hg, stt_on rfl ((htc N0).2 rfl)]
      refine ⟨hnv, fun a ha ht S hS hu => ?_⟩
      rcases lt ha with rfl | ha
      · exact hu _ hgs
      · exact hto a ha ht S hS (hu _ hgs)
    · have hn : ¬ touch st kd c f.N := fun h => h2 ((htc _).1 h)
      rw [stt_skip hn]
      obtain ⟨h3, h4⟩ := H.flcan f h1
      refine ⟨h3, fun a ha ht => ?_⟩
      rcases lt ha with rfl | ha
      · exact absurd ht hn
      · exact h4 a ha ht
  · intro N a ha hna ht hno
    by_cases hNN : N = N0
    · rw [hNN] at hno; exact absurd hin hno
    · rcases lt ha with rfl | ha
      · exact absurd ((htc N).1 ht) hNN
      · obtain ⟨b, h1, h2, h3⟩ := H.joined N a ha hna ht (fun h => hno ((hmem N hNN).2 h))
        exact ⟨b, h1, by omega, h3⟩
  · intro N j hj hN hno hlj
    rcases Nat.lt_or_ge c j with h1 | h1
    · rw [show j = c + 1 by omega] at hno; exact absurd hN hno
    · by_cases hNN : N = N0
      · subst hNN
        rcases htk j h1 hno hlj with h2 | h2
        · obtain ⟨u, h3, h4, h5⟩ := H.taken N j h1 h2 hno hlj
          exact ⟨u, h3, by omega, h5⟩
        · exact ⟨c, h1, by omega, h2⟩
      · obtain ⟨u, h2, h3, h4⟩ := H.taken N j h1 ((hmem N hNN).1 hN) hno hlj
        exact ⟨u, h2, by omega, h4⟩
  · intro l hl hkl o ho
    rw [hpd]
    rcases lt hl with rfl | hl
    · exact absurd hkl hnl
    · rcases H.pd l hl hkl o ho with h1 | ⟨b, h1, h2, h3⟩
      · exact .inl h1
      · exact .inr ⟨b, h1, by omega, h3⟩
  · intro l b hlb hb hkl hE o ho
    rcases lt hb with rfl | hb
    · rcases hE with hE | hE
      · exact absurd hE hnE
      · exact hlk hE l hlb hkl o ho
    · exact H.looks l b hlb hb hkl hE o ho
  · intro N S
    simp only [stt]
    split
    · exact Nat.le_refl _
    · exact Nat.le_trans (H.bound N S) hnx
/-- A step whose effect others see. -/
theorem Inv0.all (H : Inv0 P ops D st kd r c) {A : List Nat} (hA : ∀ u, memN A u = true → wt D c u) (hlc : lcOk (st c).past A = true) {hj : Hp} (hk : kd c = .e ((st (c + 1)).fl.map (·.N))) (join : Join A (st c).fl (st c).h (st (c + 1)).fl hj)
    (hno : ∀ f ∈ (st (c + 1)).fl, (st (c + 1)).h.at f.N = .no) (hgr : Grow hj (st (c + 1)).h) (hp : (st (c + 1)).past = (c, (st c).h) :: (st c).past)
    (hpd : ∀ p ∈ (st c).pd, memN A p.i = true ∨ (p ∈ (st (c + 1)).pd ∧ QAns P p.o p.e (st (c + 1)).h p.r)) : Inv0 P ops D st kd r (c + 1) := by
  have lt : ∀ {a}, a < c + 1 → a = c ∨ a < c := fun h => by omega
  obtain ⟨j1, j2, j3, j4, j5⟩ := join.facts H.nodup
  have hE : isE kd c := ⟨_, hk⟩
  have hsub : ∀ N, N ∈ (st (c + 1)).fl.map (·.N) → N ∈ (st c).fl.map (·.N) := fun N hN => (j3.map _).subset hN
  have htc : ∀ N, touch st kd c N ↔ (N ∉ (st (c + 1)).fl.map (·.N) ∧ N < (st (c + 1)).h.next) := fun N => by unfold touch; rw [hk]
  have hjf : hj.fresh := fun N hN => by
    rw [j1] at hN
    rw [j4 N (fun h => by obtain ⟨f, h1, h2⟩ := List.mem_map.1 h; have := (H.flt f h1).1; omega)]
    exact H.fresh N hN
  have hnx : (st c).h.next ≤ (st (c + 1)).h.next := by rw [← j1]; exact hgr.next
  have lc := H.lc hA hlc
  constructor
  · exact hgr.fresh hjf
  · intro j hj
    rcases Nat.lt_or_ge c j with h1 | h1
    · rw [show j = c + 1 by omega]; exact Nat.le_refl _
    · exact Nat.le_trans (H.nx j h1) hnx
  · exact (j3.map _).nodup H.nodup
  · intro f hf
    have := (H.flt f (j3.subset hf)).1
    exact ⟨by omega, hno f hf⟩
  · obtain ⟨cs, h1, h2, h3⟩ := H.past
    refine ⟨c :: cs, by rw [hp, h1]; rfl, List.pairwise_cons.2 ⟨fun j hj => ((h3 j).1 hj).1, h2⟩, fun j => ⟨fun h => ?_, fun ⟨h4, h5⟩ => ?_⟩⟩
    · rcases List.mem_cons.1 h with rfl | h
      · exact ⟨by omega, hE⟩
      · exact ⟨by have := ((h3 j).1 h).1; omega, ((h3 j).1 h).2⟩
    · rcases lt h4 with rfl | h4
      · exact List.mem_cons_self ..
      · exact List.mem_cons_of_mem _ ((h3 j).2 ⟨h4, h5⟩)
  · intro a b hab hb ha hb'
    rcases lt hb with rfl | hb
    · exact lc a hab ha
    · exact H.chain a b hab hb ha hb'
  · intro N a b hab hb ha ht
    rcases lt hb with rfl | hb
    · by_cases hEa : isE kd a
      · exact lc a hab hEa
      · by_cases hfl : N ∈ (st b).fl.map (·.N)
        · obtain ⟨f, h1, rfl⟩ := List.mem_map.1 hfl
          rcases j2 f h1 with h2 | ⟨h2, _, _⟩
          · exact absurd (List.mem_map.2 ⟨f, h2, rfl⟩) ((htc _).1 ht).1
          · exact fun S hS hi => (H.flcan f h1).2 a hab ha S hS fun u hu => hA u (h2 u hu) S hS hi
        · obtain ⟨b', h1, h2, h3, h4⟩ := H.joined N a hab hEa ha hfl
          exact wt_trans (lc b' h2 h3) (H.to N a b' h1 h2 ha h4)
    · exact H.to N a b hab hb ha ht
  · intro N hN
    have h1 : touch st kd c N := (htc N).2 ⟨fun h => by obtain ⟨f, h2, rfl⟩ := List.mem_map.1 h; exact hN (hno f h2), by
      rcases Nat.lt_or_ge N (st (c + 1)).h.next with h | h
      · exact h
      · exact absurd (hgr.fresh hjf N h) hN⟩
    rw [stt_on rfl h1]
    show newv st kd c N = _
    unfold newv; rw [hk]
  · intro f hf
    have hn : ¬ touch st kd c f.N := fun h => ((htc _).1 h).1 (List.mem_map.2 ⟨f, hf, rfl⟩)
    rw [stt_skip hn]
    obtain ⟨h3, h4⟩ := H.flcan f (j3.subset hf)
    refine ⟨h3, fun a ha ht => ?_⟩
    rcases lt ha with rfl | ha
    · exact absurd ht hn
    · exact h4 a ha ht
  · intro N a ha hna ht hnof
    rcases lt ha with rfl | ha
    · exact absurd hE hna
    · by_cases hfl : N ∈ (st c).fl.map (·.N)
      · obtain ⟨f, h1, rfl⟩ := List.mem_map.1 hfl
        have := (H.flt f h1).1
        exact ⟨c, ha, by omega, hE, (htc _).2 ⟨hnof, by omega⟩⟩
      · obtain ⟨b, h1, h2, h3⟩ := H.joined N a ha hna ht hfl
        exact ⟨b, h1, by omega, h3⟩
  · intro N j hj hN hnoj hlj
    rcases Nat.lt_or_ge c j with h1 | h1
    · rw [show j = c + 1 by omega] at hnoj; exact absurd hN hnoj
    · obtain ⟨u, h2, h3, h4⟩ := H.taken N j h1 (hsub N hN) hnoj hlj
      exact ⟨u, h2, by omega, h4⟩
  · intro l hl hkl o ho
    rcases lt hl with rfl | hl
    · rw [hk] at hkl; cases hkl
    · rcases H.pd l hl hkl o ho with ⟨p, h1, h2, h3⟩ | ⟨b, h1, h2, h3⟩
      · rcases hpd p h1 with h4 | ⟨h4, _⟩
        · exact .inr ⟨c, hl, by omega, hE, by rw [← h2]; exact hA _ h4⟩
        · exact .inl ⟨p, h4, h2, h3⟩
      · exact .inr ⟨b, h1, by omega, h3⟩
  · intro l b hlb hb hkl hEb o ho
    rcases lt hb with rfl | hb
    · exact H.seen hA hlc (fun p hp => (hpd p hp).imp id (·.2)) l hlb hkl o ho
    · exact H.looks l b hlb hb hkl hEb o ho
  · intro N S
    simp only [stt]
    split
    · exact Nat.le_refl _
    · exact Nat.le_trans (H.bound N S) hnx
end
end Go.L.Ev
