/- An evaluation of the translation's functions, shown sound: no condition. -/
import Derived.Test.YtnmefofmegfliaaGreatDoorE4
import Derived.RangeFuncNested
import Derived.Lib.Bytealg
import Derived.Below
import Derived.Test.YtnmefofmegfliaaGreatDoorA2
import Derived.Sort.Grow
import Derived.Maps.RangeRun
import Derived.Test.YtnmefofmegfliaaGreatDoorE2
import GoSem.ClaimFn
set_option linter.unusedVariables false
set_option linter.unusedSimpArgs false
set_option linter.unusedSectionVars false
namespace Go.L.Ev
open Go Go.RowKit
variable [Ext]
set_option linter.unusedSimpArgs false
set_option linter.unusedVariables false
section
variable {P : Program} {ty : TyT} {fu : FuT} {ops : Array Oper} {n : Nat} {pc : Option Nat} {D : List (List Nat)} {m : Nat} {st : Nat → St} {kd : Nat → Kd} {r : Nat → RV}

theorem touch_lt (T : Trc P ops n pc D m st kd r) {a N : Nat} (ha : a < m) (H : Inv0 P ops D st kd r a) (ht : touch st kd a N) : N < (st (a + 1)).h.next := by
  obtain ⟨o, A, ho, hS, hA⟩ := T.stp a ha
  unfold touch at ht
  generalize hk : kd a = k at hS ht
  generalize hr : r a = rr at hS
  generalize hs : st (a + 1) = s' at hS ht ⊢
  cases hS with
  | skip _ _ => exact ht.elim
  | q _ _ _ => exact ht.elim
  | l _ _ _ _ _ => exact ht.elim
  | m hg he hn hno hold ha => cases ht; dsimp only; omega
  | s hg he hf hst hne hn hno hold hA =>
    cases ht
    have := (H.flt _ (by rw [hf]; exact List.mem_append_right _ (List.mem_cons_self ..))).1
    dsimp only; omega
  | t hg he hne hnf hlc hn hno hold hpd hA =>
    cases ht
    have : N < (st a).h.next := by
      rcases Nat.lt_or_ge N (st a).h.next with h | h
      · exact h
      · exact absurd (H.fresh N h) hne
    dsimp only; omega
  | e hg he hlc join hno ha hpd hpd' => exact ht.2
theorem Trc.inv (T : Trc P ops n pc D m st kd r) : ∀ c, c ≤ m → ∀ j, j ≤ c → Inv0 P ops D st kd r j := by
  intro c
  induction c with
  | zero =>
    intro _ j hj
    have : j = 0 := by omega
    subst this
    constructor
    · exact T.fresh0
    · intro j hj; rw [show j = 0 by omega]; exact Nat.le_refl _
    · rw [T.fl0]; exact List.nodup_nil
    · rw [T.fl0]; intro f hf; cases hf
    · exact ⟨[], T.past0, List.Pairwise.nil, fun j => ⟨fun h => (by cases h), fun h => absurd h.1 (Nat.not_lt_zero _)⟩⟩
    · intro a b _ hb; omega
    · intro N a b _ hb; omega
    · intro N _; rfl
    · rw [T.fl0]; intro f hf; cases hf
    · intro N a ha; omega
    · rw [T.fl0]; intro N j _ hN; cases hN
    · intro l hl; omega
    · intro l b _ hb; omega
    · intro N S; exact Nat.le_refl _
  | succ c ih =>
    intro hc j hj
    have ihc := ih (by omega)
    rcases Nat.lt_or_ge c j with h1 | h1
    rotate_left
    · exact ihc j h1
    have : j = c + 1 := by omega
    subst this
    have H := ihc c (Nat.le_refl _)
    obtain ⟨o, A, ho, hS, hA⟩ := T.stp c (by omega)
    have tlt : ∀ a N, a < c → touch st kd a N → N < (st c).h.next := fun a N ha ht => by
      have h1 := touch_lt T (by omega) (ihc a (by omega)) ht
      have h2 := H.nx (a + 1) (by omega)
      omega
    generalize hk : kd c = k at hS
    generalize hr : r c = rr at hS
    generalize hs : st (c + 1) = s' at hS
    cases hS with
    | skip hg he => exact H.idle (.inl hk) (by rw [hs]) (by rw [hs]) (by rw [hs]) (fun p hp => by rw [hs]; exact hp) (fun hl => by rw [hk] at hl; cases hl)
    | q hg he ha => exact H.idle (.inl hk) (by rw [hs]) (by rw [hs]) (by rw [hs]) (fun p hp => by rw [hs]; exact hp) (fun hl => by rw [hk] at hl; cases hl)
    | l hg he ha hlt hp =>
      refine H.idle (.inr hk) (by rw [hs]) (by rw [hs]) (by rw [hs]) (fun p hp => by rw [hs]; exact List.mem_cons_of_mem _ hp) (fun _ o' ho' => ?_)
      rw [ho] at ho'; cases ho'
      rw [hs]
      exact ⟨_, List.mem_cons_self .., rfl, rfl, rfl, hr.symm⟩
    | m hg he hn hno hold ha =>
      rename_i ob mk h' e'
      have hnin : (st c).h.next ∉ (st c).fl.map (·.N) := fun h => by
        obtain ⟨f, h1, h2⟩ := List.mem_map.1 h
        have := (H.flt f h1).1
        omega
      refine H.one (N0 := (st c).h.next) (g := ⟨(st c).h.next, ob, [c]⟩) rfl (List.mem_cons_self ..) (fun N => by unfold touch; rw [hk]) (by unfold newv; rw [hk]) (fun ⟨_, h⟩ => by rw [hk] at h; cases h) (by rw [hk]; simp) ?_ ?_ ?_ ?_ ?_ ?_ ?_ ?_ (by rw [hs]) (by rw [hs]) ?_ (fun ⟨_, _, _, h⟩ => by rw [hk] at h; cases h)
      · intro f
        rw [hs]
        constructor
        · intro h
          rcases List.mem_cons.1 h with h | h
          · exact .inl h
          · exact .inr ⟨h, fun e => hnin (List.mem_map.2 ⟨f, h, e⟩)⟩
        · rintro (h | h)
          · exact List.mem_cons.2 (.inl h)
          · exact List.mem_cons_of_mem _ h.1
      · rw [hs]; exact List.nodup_cons.2 ⟨hnin, H.nodup⟩
      · rw [hs]
        intro N hN
        have hN : h'.next ≤ N := hN
        show h'.at N = .no
        rw [hold N (by omega)]
        exact H.fresh N (by omega)
      · rw [hs]; show _ ≤ h'.next; omega
      · rw [hs]; show _ < h'.next; omega
      · rw [hs]; exact hno
      · rw [hs]; exact hold
      · intro a ha' ht
        have := tlt a _ ha' ht
        omega
      · intro j hj _ hlt
        have := H.nx j hj
        omega
    | s hg he hf hst hne hn hno hold hSA =>
      rename_i pre post f ob h' e'
      have hmemf : f ∈ (st c).fl := by rw [hf]; exact List.mem_append_right _ (List.mem_cons_self ..)
      have hnd := H.nodup
      rw [hf, List.map_append, List.map_cons] at hnd
      have hpre : ∀ x ∈ pre, x.N ≠ f.N := fun x hx e => by
        have := (List.nodup_append.1 hnd).2.2 x.N (List.mem_map.2 ⟨x, hx, rfl⟩) f.N (List.mem_cons_self ..)
        exact this e
      have hpost : ∀ x ∈ post, x.N ≠ f.N := fun x hx e => by
        have := (List.nodup_cons.1 (List.nodup_append.1 hnd).2.1).1
        exact this (by rw [← e]; exact List.mem_map.2 ⟨x, hx, rfl⟩)
      have hflt := H.flt f hmemf
      refine H.one (N0 := f.N) (g := ⟨f.N, ob, c :: f.st⟩) rfl (List.mem_cons_self ..) (fun N => by unfold touch; rw [hk]) (by unfold newv; rw [hk]) (fun ⟨_, h⟩ => by rw [hk] at h; cases h) (by rw [hk]; simp) ?_ ?_ ?_ ?_ ?_ ?_ ?_ ?_ (by rw [hs]) (by rw [hs]) ?_ (fun ⟨_, _, _, h⟩ => by rw [hk] at h; cases h)
      · intro x
        rw [hs, hf]
        simp only [List.mem_append, List.mem_cons]
        constructor
        · rintro (h | h | h)
          · exact .inr ⟨.inl h, hpre x h⟩
          · exact .inl h
          · exact .inr ⟨.inr (.inr h), hpost x h⟩
        · rintro (h | ⟨h | h | h, h2⟩)
          · exact .inr (.inl h)
          · exact .inl h
          · exact absurd (by rw [h]) h2
          · exact .inr (.inr h)
      · rw [hs]
        show ((pre ++ _ :: post).map (·.N)).Nodup
        rw [List.map_append, List.map_cons]
        exact hnd
      · rw [hs]
        intro N hN
        have hN : h'.next ≤ N := hN
        show h'.at N = .no
        rw [hold N (by omega)]
        exact H.fresh N (by omega)
      · rw [hs]; show _ ≤ h'.next; omega
      · rw [hs]; show _ < h'.next; omega
      · rw [hs]; exact hno
      · rw [hs]; exact hold
      · intro a ha' ht S hS hi
        exact (H.flcan f hmemf).2 a ha' ht S hS fun u hu => hA u (hst u hu) S hS hi
      · intro j hj _ _
        exact .inl (List.mem_map.2 ⟨f, hmemf, rfl⟩)
    | t hg he hne hnf hlc hn hno hold hpd hSA =>
      rename_i N0 ob h' e'
      have hnin : N0 ∉ (st c).fl.map (·.N) := fun h => by
        obtain ⟨f, h1, h2⟩ := List.mem_map.1 h
        exact hnf f h1 h2
      have hlt : N0 < (st c).h.next := by
        rcases Nat.lt_or_ge N0 (st c).h.next with h | h
        · exact h
        · exact absurd (H.fresh N0 h) hne
      refine H.one (N0 := N0) (g := ⟨N0, ob, [c]⟩) rfl (List.mem_cons_self ..) (fun N => by unfold touch; rw [hk]) (by unfold newv; rw [hk]) (fun ⟨_, h⟩ => by rw [hk] at h; cases h) (by rw [hk]; simp) ?_ ?_ ?_ ?_ ?_ ?_ ?_ ?_ (by rw [hs]) (by rw [hs]) ?_ ?_
      · intro f
        rw [hs]
        constructor
        · intro h
          rcases List.mem_cons.1 h with h | h
          · exact .inl h
          · exact .inr ⟨h, hnf f h⟩
        · rintro (h | h)
          · exact List.mem_cons.2 (.inl h)
          · exact List.mem_cons_of_mem _ h.1
      · rw [hs]; exact List.nodup_cons.2 ⟨hnin, H.nodup⟩
      · rw [hs]
        intro N hN
        have hN : h'.next ≤ N := hN
        show h'.at N = .no
        rw [hold N (by omega)]
        exact H.fresh N (by omega)
      · rw [hs]; show _ ≤ h'.next; omega
      · rw [hs]; show _ < h'.next; omega
      · rw [hs]; exact hno
      · rw [hs]; exact hold
      · intro a ha' ht
        by_cases hE : isE kd a
        · exact H.lc hA hlc a ha' hE
        · obtain ⟨b, h1, h2, h3, h4⟩ := H.joined N0 a ha' hE ht hnin
          exact wt_trans (H.lc hA hlc b h2 h3) (H.to N0 a b h1 h2 ht h4)
      · intro j hj _ _
        exact .inr ⟨_, _, hk⟩
      · intro _
        rw [hs]
        exact H.seen hA hlc hpd
    | e hg he hlc join hno ha hpd hpd' =>
      exact H.all (A := A) hA hlc (by rw [hk, hs]) (by rw [hs]; exact join) (by rw [hs]; exact hno) (by rw [hs]; exact ha.elim (fun h => h.1) (fun h => h.2)) (by rw [hs]) (by rw [hs]; exact hpd)
theorem Trc.at' (T : Trc P ops n pc D m st kd r) {c : Nat} (h : c ≤ m) : Inv0 P ops D st kd r c := T.inv c h c (Nat.le_refl _)
/-- Effects, and what is taken, wait for the effects ahead. -/
theorem Trc.lc (T : Trc P ops n pc D m st kd r) {b : Nat} (hb : b < m) (hk : isE kd b ∨ isT kd b) : ∀ a, a < b → isE kd a → wt D b a := by
  obtain ⟨o, A, ho, hS, hA⟩ := T.stp b hb
  have H := T.at' (Nat.le_of_lt hb)
  generalize hkk : kd b = k at hS
  generalize hr : r b = rr at hS
  generalize hs : st (b + 1) = s' at hS
  cases hS with
  | t hg he hne hnf hlc hn hno hold hpd hSA => exact H.lc hA hlc
  | e hg he hlc join hno ha hpd hpd' => exact H.lc hA hlc
  | _ => rcases hk with ⟨_, h⟩ | ⟨_, _, _, h⟩ <;> (rw [hkk] at h; cases h)
/-- The greatest. -/
theorem greatest {p : Nat → Prop} : ∀ (m b : Nat), b < m → p b → ∃ j, j < m ∧ b ≤ j ∧ p j ∧ ∀ i, j < i → i < m → ¬ p i
  | 0, b, h, _ => absurd h (Nat.not_lt_zero _)
  | m + 1, b, h, hp => by
    by_cases hm : p m
    · exact ⟨m, by omega, by omega, hm, fun i h1 h2 => by omega⟩
    · have hb : b < m := by
        rcases Nat.lt_or_ge b m with h1 | h1
        · exact h1
        · exact absurd hp (by rw [show b = m by omega]; exact hm)
      obtain ⟨j, h1, h2, h3, h4⟩ := greatest m b hb hp
      refine ⟨j, by omega, h2, h3, fun i h5 h6 => ?_⟩
      rcases Nat.lt_or_ge i m with h7 | h7
      · exact h4 i h5 h7
      · rw [show i = m by omega]; exact hm
theorem least {p : Nat → Prop} (b : Nat) : p b → ∃ j, j ≤ b ∧ p j ∧ ∀ i, i < j → ¬ p i := by
  induction b using Nat.strongRecOn with
  | _ b ih =>
    intro hp
    by_cases h : ∃ i, i < b ∧ p i
    · obtain ⟨i, h1, h2⟩ := h
      obtain ⟨j, h3, h4, h5⟩ := ih i h1 h2
      exact ⟨j, by omega, h4, h5⟩
    · exact ⟨b, Nat.le_refl _, hp, fun i h1 h2 => h ⟨i, h1, h2⟩⟩
/-- Where the last effect that is done left things, they stand. -/
theorem Trc.look (T : Trc P ops n pc D m st kd r) {S : Nat → Bool} (hS : Clo D S) {j : Nat} (hj : j ≤ m) (h1 : ∀ a, a < j → isE kd a → S a = true) (h2 : ∀ b, j ≤ b → b < m → isE kd b ∨ isT kd b → S b = false) :
    ∀ N, (st j).h.at N ≠ .no → (stt st kd S N m).1 = (st j).h.at N := by
  intro N hN
  have H := T.at' hj
  have hnf : N ∉ (st j).fl.map (·.N) := fun h => by
    obtain ⟨f, h3, h4⟩ := List.mem_map.1 h
    have := (H.flt f h3).2
    rw [h4] at this; exact hN this
  have hlt : N < (st j).h.next := by
    rcases Nat.lt_or_ge N (st j).h.next with h | h
    · exact h
    · exact absurd (H.fresh N h) hN
  have e1 : stt st kd S N j = stt st kd (fun _ => true) N j := by
    refine stt_congr j (Nat.zero_le _) rfl fun a _ ha ht => ?_
    by_cases hE : isE kd a
    · exact h1 a ha hE
    · obtain ⟨b, h3, h4, h5, h6⟩ := H.joined N a ha hE ht hnf
      exact H.to N a b h3 h4 ht h6 S hS (h1 b h4 h5)
  have e2 : ∀ b, j ≤ b → b ≤ m → stt st kd S N b = stt st kd S N j := by
    intro b hb
    induction b with
    | zero => intro _; rw [show j = 0 by omega]
    | succ b ih =>
      intro hbm
      rcases Nat.lt_or_ge b j with h3 | h3
      · rw [show j = b + 1 by omega]
      · rw [← ih h3 (by omega)]
        by_cases ht : touch st kd b N
        · refine stt_off ?_
          by_cases hET : isE kd b ∨ isT kd b
          · exact h2 b h3 (by omega) hET
          · -- it is a store into what floats, or something new
            obtain ⟨o, A, ho, hSt, hA⟩ := T.stp b (by omega)
            have Hb := T.at' (show b ≤ m by omega)
            have htu := ht
            unfold touch at ht
            generalize hk : kd b = k at hSt ht
            generalize hr : r b = rr at hSt
            generalize hs : st (b + 1) = s' at hSt ht
            cases hSt with
            | skip _ _ => exact ht.elim
            | q _ _ _ => exact ht.elim
            | l _ _ _ _ _ => exact ht.elim
            | m hg he hn hno hold ha =>
              have := Hb.nx j h3
              have ht : N = (st b).h.next := ht
              omega
            | s hg he hf hst hne hn hno hold hSA =>
              rename_i pre post f ob h' e'
              have ht : N = f.N := ht
              have hin : N ∈ (st b).fl.map (·.N) := by rw [hf, ht]; simp
              obtain ⟨u, h4, h5, x, y, h6⟩ := Hb.taken N j h3 hin hnf hlt
              have hu := h2 u h4 (by omega) (.inr ⟨_, _, _, h6⟩)
              have htu' : touch st kd u N := by unfold touch; rw [h6]
              cases hSb : S b with
              | false => rfl
              | true =>
                have := (T.at' (show b + 1 ≤ m by omega)).to N u b h5 (by omega) htu' htu S hS hSb
                rw [hu] at this; cases this
            | t hg he hne hnf hlc hn hno hold hpd hSA => exact absurd (.inr ⟨_, _, _, hk⟩) hET
            | e hg he hlc join hno ha hpd hpd' => exact absurd (.inl ⟨_, hk⟩) hET
        · exact stt_skip ht
  rw [e2 m hj (Nat.le_refl _), e1]
  exact H.can N hN
end
end Go.L.Ev
namespace Go.L.Ev
open Go Go.RowKit
variable [Ext]
set_option linter.unusedSimpArgs false
set_option linter.unusedVariables false
section
variable {P : Program} {ty : TyT} {fu : FuT} {ops : Array Oper} {n : Nat} {pc : Option Nat} {D : List (List Nat)} {m : Nat} {st : Nat → St} {kd : Nat → Kd} {r : Nat → RV}

/-- The state when those of S are done. -/
structure PD (F : Frm) (δ0 : Pl) (m : Nat) (st : Nat → St) (kd : Nat → Kd) (r : Nat → RV) (S : Nat → Bool) (u : Nat → Value) (W : World) (δ : Pl) : Prop where
  ok : F.ok W
  le : Pl.le δ0 δ
  old : ∀ N, N < (st 0).h.next → δ N = δ0 N
  vals : ∀ c, c < m → S c = true → dec (cut δ (st (c + 1)).h.next) (r c) = some (u c)
  unb : ∀ c, c < m → S c = false → ∀ N, (st c).h.next ≤ N → N < (st (c + 1)).h.next → δ N = none
  top : ∀ N, (st m).h.next ≤ N → δ N = none
  own : ∀ N, (stt st kd S N m).1 ≠ .no → ∃ b c, δ N = some (b, c) ∧ ObR F (cut δ (stt st kd S N m).2) b c W (stt st kd S N m).1
  apart : ∀ N N' b c b' c', (stt st kd S N m).1 ≠ .no → (stt st kd S N' m).1 ≠ .no → N ≠ N' → δ N = some (b, c) → δ N' = some (b', c') → b ≠ b'
/-- An operation that may come now. -/
structure Rdy (D : List (List Nat)) (m : Nat) (S : Nat → Bool) (i : Nat) : Prop where
  lt : i < m
  clo : Clo D S
  off : S i = false
  clo' : Clo D (inc S i)
theorem inc_self {S : Nat → Bool} {i : Nat} : inc S i i = true := by simp [inc]
theorem inc_ne {S : Nat → Bool} {i j : Nat} (h : j ≠ i) : inc S i j = S j := by simp [inc, h]
theorem Rdy.behind {S : Nat → Bool} {i a : Nat} (R : Rdy D m S i) (h : wt D i a) (hne : a ≠ i) : S a = true := by
  have := h _ R.clo' inc_self
  rwa [inc_ne hne] at this
theorem Rdy.ahead {S : Nat → Bool} {i b : Nat} (R : Rdy D m S i) (h : wt D b i) : S b = false := by
  cases hb : S b with
  | false => rfl
  | true => have := h _ R.clo hb; rw [R.off] at this; cases this
theorem stt_inc_off {S : Nat → Bool} {i N : Nat} (h : ¬ touch st kd i N) : stt st kd (inc S i) N m = stt st kd S N m :=
  stt_congr m (Nat.zero_le _) rfl fun c _ _ ht => inc_ne fun e => h (by rw [← e]; exact ht)
theorem Trc.ready (T : Trc P ops n pc D m st kd r) {S : Nat → Bool} {i N : Nat} (R : Rdy D m S i) (ht : touch st kd i N) : stt st kd S N m = stt st kd (fun _ => true) N i ∧ stt st kd (inc S i) N m = (newv st kd i N, (st (i + 1)).h.next) := by
  have Hm := T.at' (Nat.le_refl m)
  have hlt := R.lt
  have later : ∀ b, i < b → b < m → touch st kd b N → S b = false := fun b h1 h2 h3 => R.ahead (Hm.to N i b h1 h2 ht h3)
  have e1 : stt st kd S N i = stt st kd (fun _ => true) N i := stt_congr i (Nat.zero_le _) rfl fun a _ ha hta => R.behind (Hm.to N a i ha hlt hta ht) (by omega)
  have still : ∀ (S' : Nat → Bool), (∀ b, i < b → b < m → touch st kd b N → S' b = false) → ∀ b, i + 1 ≤ b → b ≤ m → stt st kd S' N b = stt st kd S' N (i + 1) := by
    intro S' hS' b hb
    induction b with
    | zero => omega
    | succ b ih =>
      intro hbm
      rcases Nat.lt_or_ge b (i + 1) with h | h
      · rw [show b = i by omega]
      · rw [← ih h (by omega)]
        by_cases h3 : touch st kd b N
        · exact stt_off (hS' b (by omega) (by omega) h3)
        · exact stt_skip h3
  constructor
  · rw [still S later m (by omega) (Nat.le_refl _), stt_off R.off, e1]
  · rw [still (inc S i) (fun b h1 h2 h3 => by rw [inc_ne (by omega)]; exact later b h1 h2 h3) m (by omega) (Nat.le_refl _), stt_on inc_self ht]

/-! ### What the frame holds -/
theorem Stp.env {A : List Nat} {i : Nat} {o : Oper} {s s' : St} {k : Kd} {x : RV} (h : Stp P ops n pc A i o s k x s') : EStep n o.dst x s.e s'.e := by
  cases h <;> assumption
theorem Trc.env (T : Trc P ops n pc D m st kd r) : ∀ c, c ≤ m → ∀ t, (∃ j o, j < c ∧ ops[j]? = some o ∧ o.dst = some t ∧ t < n ∧ (st c).e.at t = r j) ∨ ((∀ j o, j < c → ops[j]? = some o → o.dst ≠ some t) ∧ (st c).e.at t = (st 0).e.at t) := by
  intro c
  induction c with
  | zero => intro _ t; exact .inr ⟨fun j o h => absurd h (Nat.not_lt_zero _), rfl⟩
  | succ c ih =>
    intro hc t
    obtain ⟨o, A, ho, hS, hA⟩ := T.stp c (by omega)
    have lift : (st (c + 1)).e.at t = (st c).e.at t → o.dst ≠ some t → (∃ j o, j < c + 1 ∧ ops[j]? = some o ∧ o.dst = some t ∧ t < n ∧ (st (c + 1)).e.at t = r j) ∨ ((∀ j o, j < c + 1 → ops[j]? = some o → o.dst ≠ some t) ∧ (st (c + 1)).e.at t = (st 0).e.at t) := by
      intro he hd
      rcases ih (by omega) t with ⟨j, oj, h1, h2, h3, h4, h5⟩ | ⟨h1, h2⟩
      · exact .inl ⟨j, oj, by omega, h2, h3, h4, by rw [he, h5]⟩
      · refine .inr ⟨fun j oj hj hoj => ?_, by rw [he, h2]⟩
        rcases Nat.lt_or_ge j c with h3 | h3
        · exact h1 j oj h3 hoj
        · have : j = c := by omega
          subst this
          rw [ho] at hoj; cases hoj
          exact hd
    rcases hS.env with ⟨h1, h2⟩ | ⟨t0, h1, h2, h3, h4⟩
    · exact lift (by rw [h2]) (by rw [h1]; simp)
    · by_cases htt : t = t0
      · subst htt
        exact .inl ⟨c, o, by omega, ho, h1, h2, h3⟩
      · exact lift (h4 t htt) (fun e => htt (by rw [h1] at e; exact (Option.some.inj e).symm))
theorem EnvR.base {δ0 : Pl} {e : VE} {E0 : Env} {k : Nat} (h : EnvR δ0 e E0) (hn : ∀ N, k ≤ N → δ0 N = none) {δ : Pl} (ho : ∀ N, N < k → δ N = δ0 N) {k' : Nat} (hk : k ≤ k') (t : Nat) : dec (cut δ k') (e.at t) = some (E0 t) := by
  refine dec_mono (δ := δ0) (fun N p hp => ?_) _ _ (h t)
  have hN : N < k := by
    rcases Nat.lt_or_ge N k with h1 | h1
    · exact h1
    · rw [hn N h1] at hp; cases hp
  rw [cut_get (by omega), ho N hN]; exact hp
theorem Trc.looksAt (T : Trc P ops n pc D m st kd r) (hp : ParOk ops) {F : Frm} {δ0 δ : Pl} {E0 : Env} {S : Nat → Bool} {u : Nat → Value} {W : World} (hE : EnvR δ0 (st 0).e E0) (hn : ∀ N, (st 0).h.next ≤ N → δ0 N = none) (H : PD F δ0 m st kd r S u W δ)
    {i : Nat} (hi : i < m) {o : Oper} (ho : ops[i]? = some o) (hd : ∀ j ∈ depsOf o, S j = true) {t : Nat} (ht : t ∈ o.looksAt ops) : dec (cut δ (st i).h.next) ((st i).e.at t) = some (setDeps n E0 ops u (depsOf o) t) := by
  have hacyc : ∀ j ∈ depsOf o, j < i := fun j hj => by
    obtain ⟨ed, h1, h2, rfl⟩ := mem_depsOf.1 hj
    exact hp.acyc i o ho ed h1 h2
  have hsz : i < ops.size := (Array.getElem?_eq_some_iff.1 ho).1
  have hag := setDeps_agree (n := n) hp E0 u (depsOf o) (fun j hj => by have := hacyc j hj; omega)
  have Hi := T.at' (show i ≤ m by omega)
  rcases T.env i (by omega) t with ⟨j, oj, h1, h2, h3, h4, h5⟩ | ⟨h1, h2⟩
  · rcases hp.reads i j o oj t ho h2 h3 ht with ⟨ed, q1, q2, q3⟩ | ⟨ed, q1, q2, q3⟩
    · have hjd : j ∈ depsOf o := mem_depsOf.2 ⟨ed, q1, q2, q3⟩
      rw [hag.yes j oj t h2 h3 (by simpa using hjd), upd_same h4, h5]
      exact dec_mono (cut_le (Hi.nx (j + 1) (by omega))) _ _ (H.vals j (by omega) (hd j hjd))
    · have := hp.acyc j oj h2 ed q1 q2
      omega
  · have hx : setDeps n E0 ops u (depsOf o) t = E0 t := by
      by_cases hw : ∃ (j : Nat) (oj : Oper), ops[j]? = some oj ∧ oj.dst = some t
      · obtain ⟨j, oj, h3, h4⟩ := hw
        refine hag.no j oj t h3 h4 ?_
        have : j ∉ depsOf o := fun hj => h1 j oj (hacyc j hj) h3 h4
        simpa using this
      · exact hag.out t fun j oj h3 h4 => hw ⟨j, oj, h3, h4⟩
    rw [hx, h2]
    exact hE.base hn H.old (Hi.nx 0 (by omega)) t
theorem operands_looks {o : Oper} {t : Tmp} (h : Operand.tmp t ∈ o.op.operands) : t ∈ o.looksAt ops :=
  List.mem_append_left _ (List.mem_filterMap.2 ⟨.tmp t, by simpa using h, rfl⟩)
theorem guard_looks {o : Oper} {g : Nat} {want : Bool} {t : Tmp} (hg : o.guard = some (g, want)) (ht : dstAt ops g = some t) : t ∈ o.looksAt ops := by
  have ht' : (ops[g]?).bind (·.dst) = some t := ht
  simp [Oper.looksAt, hg, ht']

/-! ### A step that touches nothing -/
theorem PD.idle {F : Frm} {δ0 δ : Pl} {S : Nat → Bool} {u : Nat → Value} {W : World} (H : PD F δ0 m st kd r S u W δ) {i : Nat} (hk : kd i = .q ∨ kd i = .l) {x : Value} (hx : dec (cut δ (st (i + 1)).h.next) (r i) = some x) : PD F δ0 m st kd r (inc S i) (setV u i x) W δ := by
  have hnt : ∀ N, ¬ touch st kd i N := fun N => by unfold touch; rcases hk with hk | hk <;> rw [hk] <;> exact id
  have hst : ∀ N, stt st kd (inc S i) N m = stt st kd S N m := fun N => stt_inc_off (hnt N)
  refine ⟨H.ok, H.le, H.old, fun c hc hS => ?_, fun c hc hS => ?_, H.top, fun N => ?_, fun N N' b c b' c' => ?_⟩
  · by_cases hci : c = i
    · subst hci; simp only [setV, if_true]; exact hx
    · rw [inc_ne hci] at hS
      simp only [setV, hci, if_false]
      exact H.vals c hc hS
  · have hci : c ≠ i := fun e => by rw [e, inc_self] at hS; cases hS
    rw [inc_ne hci] at hS
    exact H.unb c hc hS
  · rw [hst]; exact H.own N
  · rw [hst, hst]; exact H.apart N N' b c b' c'
/-- Other things when one changes: they lie elsewhere. -/
theorem PD.vals' {F : Frm} {δ0 δ δ' : Pl} {S : Nat → Bool} {u : Nat → Value} {W : World} (H : PD F δ0 m st kd r S u W δ) (hle : Pl.le δ δ') {i : Nat} {x : Value} (hx : dec (cut δ' (st (i + 1)).h.next) (r i) = some x) :
    ∀ c, c < m → inc S i c = true → dec (cut δ' (st (c + 1)).h.next) (r c) = some (setV u i x c) := by
  intro c hc hS
  by_cases hci : c = i
  · subst hci; simp only [setV, if_true]; exact hx
  · rw [inc_ne hci] at hS
    simp only [setV, hci, if_false]
    exact dec_mono (cut_mono hle _) _ _ (H.vals c hc hS)
end
end Go.L.Ev
namespace Go.L.Ev
open Go Go.RowKit
variable [Ext]
set_option linter.unusedSimpArgs false
set_option linter.unusedVariables false
section
variable {P : Program} {ty : TyT} {fu : FuT} {ops : Array Oper} {n : Nat} {pc : Option Nat} {D : List (List Nat)} {m : Nat} {st : Nat → St} {kd : Nat → Kd} {r : Nat → RV}
variable {F : Frm} {δ0 δ : Pl} {S : Nat → Bool} {u : Nat → Value} {W W' : World} {i : Nat}

theorem Trc.nx (T : Trc P ops n pc D m st kd r) {a b : Nat} (h : a ≤ b) (hb : b ≤ m) : (st a).h.next ≤ (st b).h.next := (T.at' hb).nx a h
/-- Something new. -/
theorem PD.make (T : Trc P ops n pc D m st kd r) (R : Rdy D m S i) (H : PD F δ0 m st kd r S u W δ) {N0 : Nat} {ob : Ob} {mk : Nat → RV} (hk : kd i = .m N0 ob) (hN : N0 = (st i).h.next) (hn : (st (i + 1)).h.next = N0 + 1) (hr : r i = mk N0)
    {c : Nat} {x : Value} (hg : W.grownBy W' none) (hob : ∀ (F : Frm) δ', F.free W.heap.size → Pl.le (cut δ (st i).h.next) δ' → ObR F δ' W.heap.size c W' ob) (hx : ∀ j δ', δ' j = some (W.heap.size, c) → dec δ' (mk j) = some x) :
    PD F δ0 m st kd r (inc S i) (setV u i x) W' (δ.put N0 W.heap.size c) := by
  have hlt := R.lt
  have hδ : δ N0 = none := H.unb i hlt R.off N0 (by omega) (by omega)
  have hle : Pl.le δ (δ.put N0 W.heap.size c) := Pl.le_put hδ
  have htc : ∀ N, touch st kd i N ↔ N = N0 := fun N => by unfold touch; rw [hk]
  have hput : ∀ N, N ≠ N0 → δ.put N0 W.heap.size c N = δ N := fun N h => by simp [Pl.put, h]
  have hcut : Pl.le (cut δ (st i).h.next) (cut (δ.put N0 W.heap.size c) (st (i + 1)).h.next) := Pl.le_trans (cut_le (by omega)) (cut_mono hle _)
  have hst0 : stt st kd (inc S i) N0 m = (ob, (st (i + 1)).h.next) := by
    rw [(T.ready R ((htc N0).2 rfl)).2]; unfold newv; rw [hk]
  have hst : ∀ N, N ≠ N0 → stt st kd (inc S i) N m = stt st kd S N m := fun N h => stt_inc_off fun ht => h ((htc N).1 ht)
  refine ⟨H.ok.grown hg (by simp), Pl.le_trans H.le hle, fun N hN0 => ?_, H.vals' hle ?_, fun c' hc hS N h1 h2 => ?_, fun N h1 => ?_, fun N hne => ?_, fun N N' b c1 b' c1' hne hne' hNN hb hb' => ?_⟩
  · have := T.nx (Nat.zero_le i) (Nat.le_of_lt hlt)
    rw [hput N (by omega)]; exact H.old N hN0
  · rw [hr]
    exact hx N0 _ (by rw [cut_get (by omega)]; exact Pl.put_self)
  · have hci : c' ≠ i := fun e => by rw [e, inc_self] at hS; cases hS
    rw [inc_ne hci] at hS
    have hNN : N ≠ N0 := by
      rcases Nat.lt_or_ge c' i with h3 | h3
      · have := T.nx (show c' + 1 ≤ i by omega) (Nat.le_of_lt hlt); omega
      · have := T.nx (show i + 1 ≤ c' by omega) (Nat.le_of_lt hc); omega
    rw [hput N hNN]; exact H.unb c' hc hS N h1 h2
  · have := T.nx (show i + 1 ≤ m by omega) (Nat.le_refl m)
    rw [hput N (by omega)]; exact H.top N h1
  · by_cases hNN : N = N0
    · subst hNN
      rw [hst0]
      exact ⟨_, _, Pl.put_self, hob F _ (H.ok.new (Nat.le_refl _)) hcut⟩
    · rw [hst N hNN] at hne ⊢
      obtain ⟨b, c1, hb, ho⟩ := H.own N hne
      exact ⟨b, c1, by rw [hput N hNN]; exact hb, ho.keep id (cut_mono hle _) (hg.block b (ho.lt hne) (by simp))⟩
  · have key : ∀ N b c1, N ≠ N0 → (stt st kd (inc S i) N m).1 ≠ .no → δ.put N0 W.heap.size c N = some (b, c1) → b < W.heap.size := fun N b c1 hN h1 h2 => by
      rw [hst N hN] at h1
      rw [hput N hN] at h2
      obtain ⟨b2, c2, h3, ho⟩ := H.own N h1
      rw [h2] at h3; cases h3
      exact ho.lt h1
    by_cases h1 : N = N0
    · subst h1
      rw [Pl.put_self] at hb; cases hb
      have := key N' b' c1' (Ne.symm hNN) hne' hb'
      omega
    · by_cases h2 : N' = N0
      · subst h2
        rw [Pl.put_self] at hb'; cases hb'
        have := key N b c1 h1 hne hb
        omega
      · rw [hst N h1] at hne
        rw [hst N' h2] at hne'
        rw [hput N h1] at hb
        rw [hput N' h2] at hb'
        exact H.apart N N' b c1 b' c1' hne hne' hNN hb hb'
/-- Something changes. -/
theorem PD.change (T : Trc P ops n pc D m st kd r) (R : Rdy D m S i) (H : PD F δ0 m st kd r S u W δ) {N0 : Nat} {ob : Ob} (htc : ∀ N, touch st kd i N ↔ N = N0) (hnv : newv st kd i N0 = ob) (hn : (st (i + 1)).h.next = (st i).h.next) (hr : r i = undefR)
    {b c : Nat} (hne0 : (stt st kd S N0 m).1 ≠ .no) (hb0 : δ N0 = some (b, c)) (hg : W.grownBy W' (some b)) (hob : ObR F (cut δ (st i).h.next) b c W' ob) : PD F δ0 m st kd r (inc S i) (setV u i undef) W' δ := by
  have hlt := R.lt
  have hst0 : stt st kd (inc S i) N0 m = (ob, (st (i + 1)).h.next) := by rw [(T.ready R ((htc N0).2 rfl)).2, hnv]
  have hst : ∀ N, N ≠ N0 → stt st kd (inc S i) N m = stt st kd S N m := fun N h => stt_inc_off fun ht => h ((htc N).1 ht)
  have hfree : F.free b := by
    obtain ⟨b', c', hb', ho⟩ := H.own N0 hne0
    rw [hb0] at hb'; cases hb'
    exact ho.free hne0
  refine ⟨H.ok.grown hg (fun b' h => by cases h; exact hfree), H.le, H.old, H.vals' (Pl.le_refl _) ?_, fun c' hc hS => ?_, H.top, fun N hne => ?_, fun N N' b1 c1 b' c1' hne hne' hNN hb hb' => ?_⟩
  · rw [hr]; simp [dec, decL, undef]
  · have hci : c' ≠ i := fun e => by rw [e, inc_self] at hS; cases hS
    rw [inc_ne hci] at hS
    exact H.unb c' hc hS
  · by_cases hNN : N = N0
    · subst hNN
      rw [hst0]
      exact ⟨b, c, hb0, by rw [hn]; exact hob⟩
    · rw [hst N hNN] at hne ⊢
      obtain ⟨b1, c1, hb1, ho⟩ := H.own N hne
      have hbb : b1 ≠ b := H.apart N N0 b1 c1 b c hne hne0 hNN hb1 hb0
      exact ⟨b1, c1, hb1, ho.keep id (Pl.le_refl _) (hg.block b1 (ho.lt hne) (fun e => hbb (by cases e; rfl)))⟩
  · have old : ∀ N, (stt st kd (inc S i) N m).1 ≠ .no → (stt st kd S N m).1 ≠ .no := fun N h => by
      by_cases hNN : N = N0
      · rw [hNN]; exact hne0
      · rwa [hst N hNN] at h
    exact H.apart N N' b1 c1 b' c1' (old N hne) (old N' hne') hNN hb hb'
/-- An effect: the heap that it sees. -/
theorem PD.seen (T : Trc P ops n pc D m st kd r) (R : Rdy D m S i) (H : PD F δ0 m st kd r S u W δ) {A : List Nat} (hA : ∀ u, memN A u = true → wt D i u) (hlc : lcOk (st i).past A = true) {hj : Hp} (hk : kd i = .e ((st (i + 1)).fl.map (·.N)))
    (join : Join A (st i).fl (st i).h (st (i + 1)).fl hj) (hnx : (st i).h.next ≤ (st (i + 1)).h.next) :
    ∃ F' : Frm, F'.w0 = W ∧ (∀ b, b < F.w0.heap.size → F.keep b → F'.keep b) ∧ (∀ N b c, ¬ touch st kd i N → (stt st kd S N m).1 ≠ .no → δ N = some (b, c) → F'.keep b) ∧ Rel F' (cut δ (st i).h.next) hj W := by
  have hlt := R.lt
  have Hi := T.at' (Nat.le_of_lt hlt)
  obtain ⟨j1, j2, j3, j4, j5⟩ := join.facts Hi.nodup
  have htc : ∀ N, touch st kd i N ↔ (N ∉ (st (i + 1)).fl.map (·.N) ∧ N < (st (i + 1)).h.next) := fun N => by unfold touch; rw [hk]
  -- what the effect sees is what stands
  have sees : ∀ N, hj.at N ≠ .no → touch st kd i N ∧ (stt st kd S N m).1 = hj.at N ∧ (stt st kd S N m).2 ≤ (st i).h.next ∧ N < (st i).h.next := by
    intro N hN
    have hlt' : N < (st i).h.next := by
      by_cases hf : N ∈ (st i).fl.map (·.N)
      · obtain ⟨f, h1, rfl⟩ := List.mem_map.1 hf; exact (Hi.flt f h1).1
      · rw [j4 N hf] at hN
        rcases Nat.lt_or_ge N (st i).h.next with h | h
        · exact h
        · exact absurd (Hi.fresh N h) hN
    have hnf : N ∉ (st (i + 1)).fl.map (·.N) := fun h => by
      obtain ⟨f, h1, rfl⟩ := List.mem_map.1 h
      rw [j5 f h1] at hN
      exact hN (Hi.flt f (j3.subset h1)).2
    have ht : touch st kd i N := (htc N).2 ⟨hnf, by omega⟩
    have e1 := (T.ready R ht).1
    refine ⟨ht, ?_, by rw [e1]; exact Hi.bound N _, hlt'⟩
    rw [e1]
    by_cases hf : N ∈ (st i).fl.map (·.N)
    · obtain ⟨f, h1, rfl⟩ := List.mem_map.1 hf
      rcases j2 f h1 with h2 | ⟨_, h2, _⟩
      · exact absurd (List.mem_map.2 ⟨f, h2, rfl⟩) hnf
      · rw [(Hi.flcan f h1).1, h2]
    · rw [j4 N hf] at hN ⊢
      exact Hi.can N hN
  let F' : Frm := ⟨W, fun b => (b < F.w0.heap.size ∧ F.keep b) ∨ ∃ N c, ¬ touch st kd i N ∧ (stt st kd S N m).1 ≠ .no ∧ δ N = some (b, c), Ext.mono F.inv H.ok.size fun b h1 h2 => ⟨H.ok.block b h1 h2, .inl ⟨h1, h2⟩⟩⟩
  refine ⟨F', rfl, fun b h1 h2 => .inl ⟨h1, h2⟩, fun N b c h1 h2 h3 => .inr ⟨N, c, h1, h2, h3⟩, ⟨⟨⟨rfl, rfl, rfl, Nat.le_refl _, fun _ _ _ => rfl⟩, fun N hN => ?_, fun N N' b c b' c' hN hN' hNN hb hb' => ?_⟩, fun N hN => ?_⟩⟩
  · obtain ⟨h1, h2, h3, h4⟩ := sees N hN
    have hne : (stt st kd S N m).1 ≠ .no := by rw [h2]; exact hN
    obtain ⟨b, c, hb, ho⟩ := H.own N hne
    rw [h2] at ho
    refine ⟨b, c, by rw [cut_get h4]; exact hb, ho.keep (fun hfr => ?_) (cut_le h3) rfl⟩
    intro hbl hkeep
    rcases hkeep with ⟨k1, k2⟩ | ⟨N', c', k1, k2, k3⟩
    · exact hfr k1 k2
    · exact H.apart N N' b c b c' hne k2 (fun e => k1 (by rw [← e]; exact h1)) hb k3 rfl
  · obtain ⟨h1, h2, h3, h4⟩ := sees N hN
    obtain ⟨h1', h2', h3', h4'⟩ := sees N' hN'
    rw [cut_get h4] at hb
    rw [cut_get h4'] at hb'
    exact H.apart N N' b c b' c' (by rw [h2]; exact hN) (by rw [h2']; exact hN') hNN hb hb'
  · rw [j1] at hN
    refine ⟨cut_none hN, ?_⟩
    rw [j4 N (fun h => by obtain ⟨f, h1, h2⟩ := List.mem_map.1 h; have := (Hi.flt f h1).1; omega)]
    exact Hi.fresh N hN
/-- .. and what it leaves. -/
theorem PD.effect (T : Trc P ops n pc D m st kd r) (R : Rdy D m S i) (H : PD F δ0 m st kd r S u W δ) {hj : Hp} (hjn : hj.next = (st i).h.next) (hk : kd i = .e ((st (i + 1)).fl.map (·.N))) (hno : ∀ f ∈ (st (i + 1)).fl, (st (i + 1)).h.at f.N = .no)
    {F' : Frm} (hw : F'.w0 = W) (hk1 : ∀ b, b < F.w0.heap.size → F.keep b → F'.keep b) (hk2 : ∀ N b c, ¬ touch st kd i N → (stt st kd S N m).1 ≠ .no → δ N = some (b, c) → F'.keep b)
    {δ1 : Pl} {x : Value} (hex : Ex hj (cut δ (st i).h.next) δ1) (hx : dec δ1 (r i) = some x) (hR : Rel F' δ1 (st (i + 1)).h W') : ∃ δ', PD F δ0 m st kd r (inc S i) (setV u i x) W' δ' := by
  have hlt := R.lt
  have Hi := T.at' (Nat.le_of_lt hlt)
  have Hi1 := T.at' (show i + 1 ≤ m by omega)
  have hnx := T.nx (show i ≤ i + 1 by omega) (show i + 1 ≤ m by omega)
  have htc : ∀ N, touch st kd i N ↔ (N ∉ (st (i + 1)).fl.map (·.N) ∧ N < (st (i + 1)).h.next) := fun N => by unfold touch; rw [hk]
  let δ' : Pl := fun N => if N < (st (i + 1)).h.next then δ1 N else δ N
  have d1 : ∀ N, N < (st i).h.next → δ1 N = δ N := fun N hN => by rw [hex.old N (by omega), cut_get hN]
  have d2 : ∀ N, N < (st (i + 1)).h.next → δ' N = δ1 N := fun N hN => by simp [δ', hN]
  have d3 : ∀ N, (st (i + 1)).h.next ≤ N → δ' N = δ N := fun N hN => by simp [δ', Nat.not_lt.2 hN]
  have dlow : ∀ N, N < (st i).h.next → δ' N = δ N := fun N hN => by rw [d2 N (by omega), d1 N hN]
  have hle : Pl.le δ δ' := fun N p hp => by
    rcases Nat.lt_or_ge N (st i).h.next with h | h
    · rw [dlow N h]; exact hp
    · rcases Nat.lt_or_ge N (st (i + 1)).h.next with h1 | h1
      · rw [H.unb i hlt R.off N h h1] at hp; cases hp
      · rw [d3 N h1]; exact hp
  have hcut : cut δ' (st (i + 1)).h.next = δ1 := by
    funext N
    rcases Nat.lt_or_ge N (st (i + 1)).h.next with h | h
    · rw [cut_get h, d2 N h]
    · rw [cut_none h, (hR.fresh N h).1]
  have hst0 : ∀ N, touch st kd i N → stt st kd (inc S i) N m = ((st (i + 1)).h.at N, (st (i + 1)).h.next) := fun N h => by
    rw [(T.ready R h).2]; unfold newv; rw [hk]
  have hst : ∀ N, ¬ touch st kd i N → stt st kd (inc S i) N m = stt st kd S N m := fun N h => stt_inc_off h
  have hWsz : W.heap.size ≤ W'.heap.size := by have := hR.ok.size; rw [hw] at this; exact this
  have hblk : ∀ b, b < W.heap.size → F'.keep b → W'.heap[b]? = W.heap[b]? := fun b h1 h2 => by
    have := hR.ok.block b (by rw [hw]; exact h1) h2
    rw [hw] at this; exact this
  have hfree : ∀ b, F'.free b → b < W.heap.size → ¬ F'.keep b := fun b h1 h2 => h1 (by rw [hw]; exact h2)
  have hFfree : ∀ b, F'.free b → F.free b := fun b h1 h2 h3 => hfree b h1 (Nat.lt_of_lt_of_le h2 H.ok.size) (hk1 b h2 h3)
  have up : ∀ N, touch st kd i N → N < (st (i + 1)).h.next := fun N h => ((htc N).1 h).2
  refine ⟨δ', ⟨?_, Pl.le_trans H.le hle, fun N hN => ?_, H.vals' hle (by rw [hcut]; exact hx), fun c' hc hS N h1 h2 => ?_, fun N h1 => ?_, fun N hne => ?_, fun N N' b c b' c' hne hne' hNN hb hb' => ?_⟩⟩
  · refine ⟨?_, ?_, ?_, Nat.le_trans H.ok.size hWsz, fun b h1 h2 => ?_⟩
    · have := hR.ok.os; rw [hw] at this; exact this.trans H.ok.os
    · have := hR.ok.tape; rw [hw] at this; exact this.trans H.ok.tape
    · have := hR.ok.output; rw [hw] at this; exact this.trans H.ok.output
    · rw [hblk b (Nat.lt_of_lt_of_le h1 H.ok.size) (hk1 b h1 h2)]; exact H.ok.block b h1 h2
  · have := T.nx (Nat.zero_le i) (Nat.le_of_lt hlt)
    rw [dlow N (by omega)]; exact H.old N hN
  · have hci : c' ≠ i := fun e => by rw [e, inc_self] at hS; cases hS
    rw [inc_ne hci] at hS
    have : δ' N = δ N := by
      rcases Nat.lt_or_ge c' i with h3 | h3
      · have := T.nx (show c' + 1 ≤ i by omega) (Nat.le_of_lt hlt)
        exact dlow N (by omega)
      · have := T.nx (show i + 1 ≤ c' by omega) (Nat.le_of_lt hc)
        exact d3 N (by omega)
    rw [this]; exact H.unb c' hc hS N h1 h2
  · have := T.nx (show i + 1 ≤ m by omega) (Nat.le_refl m)
    rw [d3 N (by omega)]; exact H.top N h1
  · by_cases ht : touch st kd i N
    · rw [hst0 N ht] at hne ⊢
      obtain ⟨b, c, hb, ho⟩ := hR.own N hne
      refine ⟨b, c, by rw [d2 N (up N ht)]; exact hb, ?_⟩
      rw [hcut]
      exact ho.keep (hFfree b) (Pl.le_refl _) rfl
    · rw [hst N ht] at hne ⊢
      obtain ⟨b, c, hb, ho⟩ := H.own N hne
      exact ⟨b, c, hle _ _ hb, ho.keep id (cut_mono hle _) (hblk b (ho.lt hne) (hk2 N b c ht hne hb))⟩
  · -- an untouched thing keeps its block; what is touched lies elsewhere
    have kept : ∀ N b c, ¬ touch st kd i N → (stt st kd (inc S i) N m).1 ≠ .no → δ' N = some (b, c) → (stt st kd S N m).1 ≠ .no ∧ δ N = some (b, c) ∧ F'.keep b ∧ b < W.heap.size := fun N b c ht h1 h2 => by
      rw [hst N ht] at h1
      obtain ⟨b2, c2, h3, ho⟩ := H.own N h1
      rw [hle _ _ h3] at h2; cases h2
      exact ⟨h1, h3, hk2 N _ _ ht h1 h3, ho.lt h1⟩
    have new : ∀ N b c, touch st kd i N → (stt st kd (inc S i) N m).1 ≠ .no → δ' N = some (b, c) → (st (i + 1)).h.at N ≠ .no ∧ δ1 N = some (b, c) ∧ F'.free b := fun N b c ht h1 h2 => by
      rw [hst0 N ht] at h1
      rw [d2 N (up N ht)] at h2
      exact ⟨h1, h2, (hR.lt h1 h2).1⟩
    by_cases ht : touch st kd i N
    · obtain ⟨a1, a2, a3⟩ := new N b c ht hne hb
      by_cases ht' : touch st kd i N'
      · obtain ⟨b1, b2, b3⟩ := new N' b' c' ht' hne' hb'
        exact hR.apart N N' b c b' c' a1 b1 hNN a2 b2
      · obtain ⟨b1, b2, b3, b4⟩ := kept N' b' c' ht' hne' hb'
        rintro rfl
        exact hfree b a3 b4 b3
    · obtain ⟨a1, a2, a3, a4⟩ := kept N b c ht hne hb
      by_cases ht' : touch st kd i N'
      · obtain ⟨b1, b2, b3⟩ := new N' b' c' ht' hne' hb'
        rintro rfl
        exact hfree b b3 a4 a3
      · obtain ⟨b1, b2, b3, b4⟩ := kept N' b' c' ht' hne' hb'
        exact H.apart N N' b c b' c' a1 b1 hNN a2 b2
end
end Go.L.Ev
namespace Go.L.Ev
open Go Go.RowKit
variable [Ext]
set_option linter.unusedSimpArgs false
set_option linter.unusedVariables false
section
variable {P : Program} {ty : TyT} {fu : FuT} {ops : Array Oper} {n : Nat} {pc : Option Nat} {D : List (List Nat)} {m : Nat} {st : Nat → St} {kd : Nat → Kd} {r : Nat → RV}
variable {F : Frm} {δ0 δ : Pl} {S : Nat → Bool} {u : Nat → Value} {W W' : World} {i : Nat}

/-- What a look may look at. -/
theorem PD.relA (H : PD F δ0 m st kd r S u W δ) {g : Hp} (h : ∀ N, g.at N ≠ .no → (stt st kd S N m).1 = g.at N) : RelA F δ g W := by
  refine ⟨H.ok, fun N hN => ?_, fun N N' b c b' c' hN hN' hNN hb hb' => ?_⟩
  · have h1 := h N hN
    obtain ⟨b, c, hb, ho⟩ := H.own N (by rw [h1]; exact hN)
    rw [h1] at ho
    exact ⟨b, c, hb, ho.keep id (cut_self _ _) rfl⟩
  · exact H.apart N N' b c b' c' (by rw [h N hN]; exact hN) (by rw [h N' hN']; exact hN') hNN hb hb'
theorem Trc.sees (T : Trc P ops n pc D m st kd r) (R : Rdy D m S i) (hk : kd i = .l) {o : Oper} {A : List Nat} (ho : ops[i]? = some o) (hA : ∀ u, memN A u = true → wt D i u) (ha : QAns P o (st i).e (st i).h (r i)) (hp : PastOk P o (st i).e (r i) A (st i).past) :
    ∃ g, QAns P o (st i).e g (r i) ∧ ∀ N, g.at N ≠ .no → (stt st kd S N m).1 = g.at N := by
  have hlt := R.lt
  have Hi := T.at' (Nat.le_of_lt hlt)
  have Hm := T.at' (Nat.le_refl m)
  have hnE : ¬ isE kd i := fun ⟨_, h⟩ => by rw [hk] at h; cases h
  have hnT : ¬ isT kd i := fun ⟨_, _, _, h⟩ => by rw [hk] at h; cases h
  by_cases hl : ∃ b, i < b ∧ b < m ∧ S b = true ∧ (isE kd b ∨ isT kd b)
  · obtain ⟨b0, hb1, hb2, hb3, hb4⟩ := hl
    obtain ⟨b, h1, h2, ⟨h3, h4, h5⟩, h6⟩ := greatest (p := fun b => i < b ∧ S b = true ∧ (isE kd b ∨ isT kd b)) m b0 hb2 ⟨hb1, hb3, hb4⟩
    have hwait := T.lc h1 h5
    refine ⟨(st (b + 1)).h, ?_, T.look R.clo (show b + 1 ≤ m by omega) (fun a ha' hE => ?_) fun b' hb' hm' hET => ?_⟩
    · rcases Hm.looks i b h3 h1 hk h5 o ho with h7 | h7
      · have := R.ahead h7; rw [h4] at this; cases this
      · exact h7
    · rcases Nat.lt_or_ge a b with h7 | h7
      · exact hwait a h7 hE S R.clo h4
      · rw [show a = b by omega]; exact h4
    · cases hS : S b' with
      | false => rfl
      | true => exact absurd ⟨by omega, hS, hET⟩ (h6 b' (by omega) hm')
  · have none_behind : ∀ b, i < b → b < m → isE kd b ∨ isT kd b → S b = false := fun b h1 h2 h3 => by
      cases hS : S b with
      | false => rfl
      | true => exact absurd ⟨b, h1, h2, hS, h3⟩ hl
    by_cases hf : ∃ a, a < i ∧ isE kd a ∧ S a = false
    · obtain ⟨a0, ha0⟩ := hf
      obtain ⟨a, h1, ⟨h2, h3, h4⟩, h5⟩ := least (p := fun a => a < i ∧ isE kd a ∧ S a = false) a0 ha0
      refine ⟨(st a).h, ?_, T.look R.clo (show a ≤ m by omega) (fun a' ha' hE => ?_) fun b' hb' hm' hET => ?_⟩
      · obtain ⟨cs, q1, q2, q3⟩ := Hi.past
        have hac : a ∈ cs := (q3 a).2 ⟨h2, h3⟩
        obtain ⟨pre, post, rfl⟩ := List.append_of_mem hac
        rw [List.map_append, List.map_cons] at q1
        rcases hp _ _ _ _ q1 with ⟨x, hx, hm⟩ | hm | hq
        · obtain ⟨c', hc', rfl⟩ := List.mem_map.1 hx
          have hgt : c' > a := (List.pairwise_append.1 q2).2.2 c' hc' a (List.mem_cons_self ..)
          have hcE := (q3 c').1 (List.mem_append_left _ hc')
          have hSc := R.behind (hA _ hm) (Nat.ne_of_lt hcE.1)
          have := Hi.chain a c' hgt hcE.1 h3 hcE.2 S R.clo hSc
          rw [h4] at this; cases this
        · have := R.behind (hA _ hm) (by omega)
          rw [h4] at this; cases this
        · exact hq
      · cases hS : S a' with
        | true => rfl
        | false => exact absurd ⟨by omega, hE, hS⟩ (h5 a' ha')
      · rcases Nat.lt_or_ge a b' with h6 | h6
        · cases hS : S b' with
          | false => rfl
          | true =>
            have := T.lc hm' hET a h6 h3 S R.clo hS
            rw [h4] at this; cases this
        · rw [show b' = a by omega]; exact h4
    · refine ⟨(st i).h, ha, T.look R.clo (Nat.le_of_lt hlt) (fun a ha' hE => ?_) fun b' hb' hm' hET => ?_⟩
      · cases hS : S a with
        | true => rfl
        | false => exact absurd ⟨a, ha', hE, hS⟩ hf
      · rcases Nat.lt_or_ge i b' with h6 | h6
        · exact none_behind b' h6 hm' hET
        · have : b' = i := by omega
          subst this
          rcases hET with h | h
          · exact absurd h hnE
          · exact absurd h hnT
/-- What holds between two operations. -/
def PInvX (F : Frm) (δ0 : Pl) (m : Nat) (st : Nat → St) (kd : Nat → Kd) (r : Nat → RV) (pc : Option Nat) : PInv := fun S u W => (∃ δ, PD F δ0 m st kd r S u W δ) ∧ ∀ c, pc = some c → S c = false
theorem par_one (T : Trc P ops n pc D m st kd r) (hp : ParOk ops) (hD : ∀ i o, ops[i]? = some o → D.getD i [] = depsOf o) {E0 : Env} (hE : EnvR δ0 (st 0).e E0) (hn : ∀ N, (st 0).h.next ≤ N → δ0 N = none) {rd : Option Nat} {X : Chain → World → Prop}
    (hX : ∀ c F' δ δ1 y W W', pc = some c → c < m → (∃ S u, PD F δ0 m st kd r S u W δ) → F'.w0 = W → (∀ b, b < F.w0.heap.size → F.keep b → F'.keep b) → Ex (st c).h (cut δ (st c).h.next) δ1 → dec δ1 (r c) = some y → Rel F' δ1 (st (c + 1)).h W' → X [{ v := y, recovered := false }] W') :
    ∀ i o, i < m → ops[i]? = some o → parOneX P n rd ops E0 (Clo D) (PInvX F δ0 m st kd r pc) X i o := by
  intro i o hi ho S u W ⟨⟨δ, H⟩, hpcS⟩ hClo hSi hdeps
  have hclo' : Clo D (inc S i) := fun j hj x hx => by
    by_cases hji : j = i
    · subst hji
      rw [hD j o ho] at hx
      have := hdeps x hx
      by_cases hxj : x = j
      · rw [hxj]; exact inc_self
      · rw [inc_ne hxj]; exact this
    · rw [inc_ne hji] at hj
      have := hClo j hj x hx
      by_cases hxi : x = i
      · rw [hxi]; exact inc_self
      · rw [inc_ne hxi]; exact this
  have R : Rdy D m S i := ⟨hi, hClo, hSi, hclo'⟩
  have Hi := T.at' (Nat.le_of_lt hi)
  have hla : ∀ t, t ∈ o.looksAt ops → dec (cut δ (st i).h.next) ((st i).e.at t) = some (setDeps n E0 ops u (depsOf o) t) := fun t ht => T.looksAt hp hE hn H hi ho hdeps ht
  have envO : EnvO (cut δ (st i).h.next) (st i).e (setDeps n E0 ops u (depsOf o)) o.op.operands := fun t ht => hla t (operands_looks ht)
  have envO' : EnvO δ (st i).e (setDeps n E0 ops u (depsOf o)) o.op.operands := fun t ht => dec_mono (cut_self _ _) _ _ (envO t ht)
  have kn0 : KnOk [] (setDeps n E0 ops u (depsOf o)) := fun t b h => by simp at h
  have hnx := T.nx (show i ≤ i + 1 by omega) (show i + 1 ≤ m by omega)
  obtain ⟨o', A, ho', hS, hA⟩ := T.stp i hi
  rw [ho] at ho'; cases ho'
  -- a guard that holds
  have yes : GYes ops o (st i).e → vcOpV P rd false X o [] (setDeps n E0 ops u (depsOf o)) W (fun _ v W' => PInvX F δ0 m st kd r pc (inc S i) (setV u i v) W') (fun _ _ => False) →
      (match o.guard with
      | none => vcOpV P rd false X o [] (setDeps n E0 ops u (depsOf o)) W (fun _ v W' => PInvX F δ0 m st kd r pc (inc S i) (setV u i v) W') (fun _ _ => False)
      | some (g, want) =>
        match dstAt ops g with
        | none => False
        | some t => kGuard (setDeps n E0 ops u (depsOf o) t) want
            (vcOpV P rd false X o [] (setDeps n E0 ops u (depsOf o)) W (fun _ v W' => PInvX F δ0 m st kd r pc (inc S i) (setV u i v) W') (fun _ _ => False)) (PInvX F δ0 m st kd r pc (inc S i) (setV u i undef) W)) := by
    intro hg hv
    rcases hg with hg | ⟨g, want, t, hg, ht, hv'⟩
    · simp only [hg]; exact hv
    · simp only [hg, ht]
      have h1 := hla t (guard_looks hg ht)
      rw [hv'] at h1
      rw [dec_bool h1]
      refine ⟨?_⟩
      show (if want = want then _ else _)
      rw [if_pos rfl]; exact hv
  show match o.guard with
      | none => _
      | some (g, want) => _
  by_cases hpi : pc = some i
  · obtain ⟨o', A', ho', hA', hj, hg, hlc, join, hk', hP⟩ := T.pan i hpi hi
    rw [ho] at ho'; cases ho'
    refine yes hg ?_
    obtain ⟨F', f1, f2, f3, hRel⟩ := PD.seen T R H hA' hlc hk' join hnx
    obtain ⟨j1, _⟩ := join.facts Hi.nodup
    exact hP.2 F' _ W _ hRel envO rd X [] _ _ fun δ1 y W' hex hy hR' => hX i F' δ δ1 y W W' hpi hi ⟨S, u, H⟩ f1 f2 ⟨hex.le, fun N hN => hex.old N (by rw [j1]; exact hN)⟩ hy hR'
  have nxt : ∀ {v : Value} {W' : World}, (∃ δ, PD F δ0 m st kd r (inc S i) (setV u i v) W' δ) → PInvX F δ0 m st kd r pc (inc S i) (setV u i v) W' := fun h => ⟨h, fun c hc => by
    rw [inc_ne (fun e => hpi (by rw [hc, e]))]; exact hpcS c hc⟩
  generalize hk : kd i = k at hS
  generalize hr : r i = rr at hS
  generalize hs : st (i + 1) = s' at hS
  cases hS with
  | skip hg he =>
    rcases hg with hg | ⟨c, hc, hne, hmA⟩
    rotate_left
    · have h1 := R.behind (hA c hmA) (Ne.symm hne)
      rw [hpcS c hc] at h1; cases h1
    obtain ⟨g, want, t, hg, ht, hv⟩ := hg
    simp only [hg, ht]
    have h1 := hla t (guard_looks hg ht)
    have done : PInvX F δ0 m st kd r pc (inc S i) (setV u i undef) W := nxt ⟨δ, H.idle (.inl hk) (by rw [hr]; simp [dec])⟩
    refine ⟨?_⟩
    rcases hv with hv | ⟨b, hv, hne⟩
    · rw [hv] at h1
      simp only [dec, Option.some.injEq] at h1
      rw [← h1]; exact done
    · rw [hv] at h1
      rw [dec_bool h1]
      show (if b = want then _ else _)
      rw [if_neg hne]; exact done
  | q hg he ha =>
    refine yes hg ?_
    have hrel : RelA F (cut δ (st i).h.next) ⟨(st i).h.next, .lf⟩ W := ⟨H.ok, fun N hN => absurd rfl hN, fun N N' b c b' c' hN => absurd rfl hN⟩
    obtain ⟨x, hx, hy⟩ := ha F _ W _ hrel envO
    exact hy false rd _ [] _ _ kn0 fun b _ => nxt ⟨δ, H.idle (.inl hk) (by rw [hr]; exact dec_mono (cut_le hnx) _ _ hx)⟩
  | l hg he ha hlt hpast =>
    refine yes hg ?_
    rw [← hr] at ha hlt hpast
    obtain ⟨g, hq, hsee⟩ := T.sees R hk ho hA ha hpast
    obtain ⟨x, hx, hy⟩ := hq F δ W _ (H.relA hsee) envO'
    exact hy false rd _ [] _ _ kn0 fun b _ => nxt ⟨δ, H.idle (.inr hk) (dec_mono (cut_le hnx) _ _ (rvLt_dec _ hlt hx))⟩
  | m hg he hn' hno hold ha =>
    refine yes hg ?_
    obtain ⟨c, x, W', hgr, hsz, hob, hx, hy⟩ := ha (cut δ (st i).h.next) W _ envO
    exact hy rd _ [] _ _ kn0 fun b _ => nxt ⟨_, PD.make T R H hk rfl (by rw [hs]; exact hn') hr hgr hob hx⟩
  | s hg he hf hst hne hn' hno hold ha =>
    rename_i pre post f ob h' e'
    refine yes hg ?_
    have hmemf : f ∈ (st i).fl := by rw [hf]; exact List.mem_append_right _ (List.mem_cons_self ..)
    have htc : ∀ N, touch st kd i N ↔ N = f.N := fun N => by unfold touch; rw [hk]
    have e1 : (stt st kd S f.N m).1 = f.ob := by rw [(T.ready R ((htc _).2 rfl)).1, (Hi.flcan f hmemf).1]
    have e2 : (stt st kd S f.N m).2 ≤ (st i).h.next := by rw [(T.ready R ((htc _).2 rfl)).1]; exact Hi.bound _ _
    have hne' : (stt st kd S f.N m).1 ≠ .no := by rw [e1]; exact hne
    obtain ⟨b, c, hb, hO⟩ := H.own f.N hne'
    rw [e1] at hO
    obtain ⟨W', hgr, hO', hy⟩ := ha F (cut δ (st i).h.next) W _ b c envO (by rw [cut_get (Hi.flt f hmemf).1]; exact hb) (hO.keep id (cut_le e2) rfl)
    exact hy rd _ [] _ _ kn0 fun b' _ => nxt ⟨δ, PD.change T R H htc (by unfold newv; rw [hk]) (by rw [hs]; exact hn') hr hne' hb hgr hO'⟩
  | t hg he hne hnf hlc hn' hno hold hpd ha =>
    rename_i N0 ob h' e'
    refine yes hg ?_
    have htc : ∀ N, touch st kd i N ↔ N = N0 := fun N => by unfold touch; rw [hk]
    have e1 : (stt st kd S N0 m).1 = (st i).h.at N0 := by rw [(T.ready R ((htc _).2 rfl)).1]; exact Hi.can N0 hne
    have e2 : (stt st kd S N0 m).2 ≤ (st i).h.next := by rw [(T.ready R ((htc _).2 rfl)).1]; exact Hi.bound _ _
    have hne' : (stt st kd S N0 m).1 ≠ .no := by rw [e1]; exact hne
    have hlt0 : N0 < (st i).h.next := by
      rcases Nat.lt_or_ge N0 (st i).h.next with h | h
      · exact h
      · exact absurd (Hi.fresh N0 h) hne
    obtain ⟨b, c, hb, hO⟩ := H.own N0 hne'
    rw [e1] at hO
    obtain ⟨W', hgr, hO', hy⟩ := ha F (cut δ (st i).h.next) W _ b c envO (by rw [cut_get hlt0]; exact hb) (hO.keep id (cut_le e2) rfl)
    exact hy rd _ [] _ _ kn0 fun b' _ => nxt ⟨δ, PD.change T R H htc (by unfold newv; rw [hk]) (by rw [hs]; exact hn') hr hne' hb hgr hO'⟩
  | e hg he hlc join hno ha hpd hpd' =>
    refine yes hg ?_
    have hk' : kd i = .e ((st (i + 1)).fl.map (·.N)) := by rw [hk, hs]
    obtain ⟨F', f1, f2, f3, hRel⟩ := PD.seen T R H hA hlc hk' (by rw [hs]; exact join) hnx
    obtain ⟨j1, _⟩ := join.facts Hi.nodup
    rcases ha with ha | ⟨hpc, _⟩
    rotate_left
    · exact absurd hpc hpi
    refine ha.2 F' _ W _ hRel envO rd _ [] _ _ kn0 fun δ1 x W' b hex hx hR' _ => ?_
    exact nxt <| PD.effect T R H j1 hk' (by rw [hs]; exact hno) f1 f2 f3 hex (by rw [hr]; exact hx) (by rw [hs]; exact hR')
end
end Go.L.Ev
namespace Go.L.Ev
open Go Go.RowKit
variable [Ext]
set_option linter.unusedSimpArgs false
set_option linter.unusedVariables false
section
variable {P : Program} {ty : TyT} {fu : FuT} {ops : Array Oper} {n : Nat} {pc : Option Nat} {D : List (List Nat)} {m : Nat} {st : Nat → St} {kd : Nat → Kd} {r : Nat → RV}
variable {F : Frm} {δ0 δ : Pl} {S : Nat → Bool} {u : Nat → Value} {W W' : World} {i : Nat}

theorem FAll.next {fl : List Fl} {h h' : Hp} (H : FAll fl h h') : h'.next = h.next := by
  induction H with
  | nil => rfl
  | cons hn _ _ _ ih => rw [ih, hn]
theorem FAll.facts {fl : List Fl} {h h' : Hp} (H : FAll fl h h') (hn : (fl.map (·.N)).Nodup) : (∀ f ∈ fl, h'.at f.N = f.ob) ∧ ∀ N, N ∉ fl.map (·.N) → h'.at N = h.at N := by
  induction H with
  | nil => exact ⟨fun f hf => (by cases hf), fun _ _ => rfl⟩
  | cons hn1 hat hold t ih =>
    rename_i f fl h h1 h'
    simp only [List.map_cons, List.nodup_cons] at hn
    obtain ⟨i1, i2⟩ := ih hn.2
    refine ⟨fun g hg => ?_, fun N hN => ?_⟩
    · rcases List.mem_cons.1 hg with rfl | hg
      · rw [i2 _ hn.1]; exact hat
      · exact i1 g hg
    · simp only [List.map_cons, List.mem_cons, not_or] at hN
      rw [i2 N hN.2, hold N hN.1]
theorem Join.next {A : List Nat} {fl fl' : List Fl} {h hj : Hp} (J : Join A fl h fl' hj) : hj.next = h.next := by
  induction J with
  | nil => rfl
  | in_ _ hn _ _ _ ih => rw [ih, hn]
  | out _ ih => exact ih
theorem Stp.next {A : List Nat} {i : Nat} {o : Oper} {s s' : St} {k : Kd} {x : RV} (h : Stp P ops n pc A i o s k x s') : s.h.next ≤ s'.h.next := by
  cases h with
  | skip _ _ => exact Nat.le_refl _
  | q _ _ _ => exact Nat.le_refl _
  | l _ _ _ _ _ => exact Nat.le_refl _
  | m _ _ hn _ _ _ => dsimp only; omega
  | s _ _ _ _ _ hn _ _ _ => dsimp only; omega
  | t _ _ _ _ _ hn _ _ _ _ => dsimp only; omega
  | e _ _ _ join _ ha _ _ =>
    have := join.next
    rcases ha with ha | ⟨_, ha⟩
    · have := ha.1.next; dsimp only; omega
    · have := ha.next; dsimp only; omega
theorem stt_none {N : Nat} : ∀ b, stt st kd (fun _ => false) N b = ((st 0).h.at N, (st 0).h.next)
  | 0 => rfl
  | b + 1 => by rw [stt_off rfl]; exact stt_none b
theorem PD.start (T : Trc P ops n pc D m st kd r) (hR : Rel F δ0 (st 0).h W) : PD F δ0 m st kd r (fun _ => false) u W δ0 := by
  have hcut : Pl.le δ0 (cut δ0 (st 0).h.next) := fun N p hp => by
    rcases Nat.lt_or_ge N (st 0).h.next with h | h
    · rw [cut_get h]; exact hp
    · rw [(hR.fresh N h).1] at hp; cases hp
  refine ⟨hR.ok, Pl.le_refl _, fun _ _ => rfl, fun c _ h => (by cases h), fun c hc _ N h1 h2 => ?_, fun N h1 => ?_, fun N hN => ?_, fun N N' b c b' c' hN hN' hNN hb hb' => ?_⟩
  · have := T.nx (Nat.zero_le c) (Nat.le_of_lt hc)
    exact (hR.fresh N (by omega)).1
  · have := T.nx (Nat.zero_le m) (Nat.le_refl m)
    exact (hR.fresh N (by omega)).1
  · rw [stt_none] at hN ⊢
    obtain ⟨b, c, hb, ho⟩ := hR.own N hN
    exact ⟨b, c, hb, ho.keep id hcut rfl⟩
  · rw [stt_none] at hN hN'
    exact hR.apart N N' b c b' c' hN hN' hNN hb hb'
/-- All are done. -/
theorem PD.fin (T : Trc P ops n pc D m st kd r) (H : PD F δ0 m st kd r S u W δ) (hall : ∀ j, j < m → S j = true) {hF : Hp} (hFA : FAll (st m).fl (st m).h hF) : Rel F δ hF W ∧ Ex (st 0).h δ0 δ := by
  have Hm := T.at' (Nat.le_refl m)
  obtain ⟨f1, f2⟩ := hFA.facts Hm.nodup
  have hn := hFA.next
  have hst : ∀ N, stt st kd S N m = stt st kd (fun _ => true) N m := fun N => stt_congr m (Nat.zero_le _) rfl fun c _ hc _ => hall c hc
  have key : ∀ N, hF.at N ≠ .no → (stt st kd S N m).1 = hF.at N := fun N hN => by
    rw [hst]
    by_cases hf : N ∈ (st m).fl.map (·.N)
    · obtain ⟨f, h1, rfl⟩ := List.mem_map.1 hf
      rw [f1 f h1, (Hm.flcan f h1).1]
    · rw [f2 N hf] at hN ⊢
      exact Hm.can N hN
  refine ⟨⟨H.relA key, fun N hN => ?_⟩, H.le, H.old⟩
  rw [hn] at hN
  refine ⟨H.top N hN, ?_⟩
  rw [f2 N (fun h => by obtain ⟨f, h1, h2⟩ := List.mem_map.1 h; have := (Hm.flt f h1).1; omega)]
  exact Hm.fresh N hN
theorem PD.env (T : Trc P ops n pc D m st kd r) (hp : ParOk ops) (hm : m ≤ ops.size) {E0 : Env} (hE : EnvR δ0 (st 0).e E0) (H : PD F δ0 m st kd r S u W δ) (hall : ∀ j, j < m → S j = true) : EnvR δ (st m).e (setDeps n E0 ops u (List.range m)) := by
  intro t
  have hag := setDeps_agree (n := n) hp E0 u (List.range m) (fun j hj => by have := List.mem_range.1 hj; omega)
  rcases T.env m (Nat.le_refl m) t with ⟨j, oj, h1, h2, h3, h4, h5⟩ | ⟨h1, h2⟩
  · rw [hag.yes j oj t h2 h3 (by simpa using h1), upd_same h4]
    show dec δ ((st m).e.at t) = _
    rw [h5]
    exact dec_mono (cut_self _ _) _ _ (H.vals j h1 (hall j h1))
  · have hx : setDeps n E0 ops u (List.range m) t = E0 t := by
      by_cases hw : ∃ (j : Nat) (oj : Oper), ops[j]? = some oj ∧ oj.dst = some t
      · obtain ⟨j, oj, h3, h4⟩ := hw
        refine hag.no j oj t h3 h4 ?_
        have : ¬ j < m := fun hj => h1 j oj hj h3 h4
        simpa using this
      · exact hag.out t fun j oj h3 h4 => hw ⟨j, oj, h3, h4⟩
    rw [hx]
    show dec δ ((st m).e.at t) = _
    rw [h2]
    exact dec_mono H.le _ _ (hE t)
theorem EnvOk.deps {e : Env} {u : Nat → Value} (h : EnvOk n e) : ∀ js : List Nat, EnvOk n (setDeps n e ops u js)
  | [] => h
  | j :: js => (EnvOk.deps h js).put _ _
theorem memN_mem {l : List Nat} {u : Nat} (h : memN l u = true) : u ∈ l := by
  induction l with
  | nil => cases h
  | cons a l ih =>
    have h : iff (Nat.beq a u) true (memN l u) = true := h
    rcases iff_inv h with ⟨e1, _⟩ | ⟨_, h1⟩
    · rw [Nat.eq_of_beq_eq_true e1]; exact List.mem_cons_self ..
    · exact List.mem_cons_of_mem _ (ih h1)
theorem lowK_inv {A : List Nat} : ∀ {m : Nat}, lowK A m = true → ∀ j, j < m → memN A j = true
  | 0, _, j, hj => absurd hj (by omega)
  | m + 1, h, j, hj => by
    obtain ⟨h1, h2⟩ := iff_t (show iff (memN A m) (lowK A m) false = true from h)
    by_cases e : j = m
    · rw [e]; exact h1
    · exact lowK_inv h2 j (by omega)
theorem tailX_spec (ops : Array Oper) (hD : ∀ i, i < (ops.toList.map depsOf).length → ∀ j ∈ (ops.toList.map depsOf).getD i [], j < i) :
    tailX ops ≤ ops.size ∧ (∀ i, tailX ops < i → i < ops.size → i - 1 ∈ depsOf (ops.getD i default)) ∧
    (tailX ops < ops.size → ∀ S, Clo (ops.toList.map depsOf) S → (∀ x ∈ depsOf (ops.getD (tailX ops) default), S x = true) → ∀ j, j < tailX ops → S j = true) := by
  have hanc := (ancTab_spec _ hD).2
  have key : ∀ g, g = tailGo ops ops.size → ∀ t, t = @Nat.rec (fun _ => Nat) 0 (fun k _ => @Bool.rec (fun _ => Nat) (Nat.succ k) k (iff (Nat.beq ((ancTab (ops.toList.map depsOf)).getD k []).length k) (lowK ((ancTab (ops.toList.map depsOf)).getD k []) k) false)) g →
      t ≤ ops.size ∧ (∀ i, t < i → i < ops.size → i - 1 ∈ depsOf (ops.getD i default)) ∧
      (t < ops.size → ∀ S, Clo (ops.toList.map depsOf) S → (∀ x ∈ depsOf (ops.getD t default), S x = true) → ∀ j, j < t → S j = true) := by
    intro g hg t ht
    have hle : g ≤ ops.size := by rw [hg]; exact tailGo_le _ _
    have sp : ∀ i, g ≤ i → i < ops.size → ∀ j, j < i → j ∈ depsOf (ops.getD i default) := fun i h1 h2 => tailGo_spec ops ops.size i (by rw [← hg]; exact h1) h2
    cases g with
    | zero =>
      have ht : t = 0 := ht
      subst ht
      exact ⟨Nat.zero_le _, fun i h1 h2 => sp i (by omega) h2 _ (by omega), fun _ S _ _ j hj => absurd hj (by omega)⟩
    | succ k =>
      have ht : t = @Bool.rec (fun _ => Nat) (Nat.succ k) k (iff (Nat.beq ((ancTab (ops.toList.map depsOf)).getD k []).length k) (lowK ((ancTab (ops.toList.map depsOf)).getD k []) k) false) := ht
      cases hc : iff (Nat.beq ((ancTab (ops.toList.map depsOf)).getD k []).length k) (lowK ((ancTab (ops.toList.map depsOf)).getD k []) k) false with
      | false =>
        rw [hc] at ht
        have ht : t = k + 1 := ht
        subst ht
        exact ⟨hle, fun i h1 h2 => sp i (by omega) h2 _ (by omega), fun h1 S _ hS j hj => hS j (sp _ (Nat.le_refl _) h1 j hj)⟩
      | true =>
        rw [hc] at ht
        have ht : t = k := ht
        subst ht
        obtain ⟨_, hlow⟩ := iff_t hc
        refine ⟨by omega, fun i h1 h2 => sp i (by omega) h2 _ (by omega), fun h1 S hClo hS j hj => ?_⟩
        refine hanc S hClo t (fun x hx => hS x ?_) j (memN_mem (lowK_inv hlow j hj))
        have e1 : (ops.toList.map depsOf).getD t [] = depsOf (ops.getD t default) := by simp [h1]
        rw [← e1]; exact hx
  exact key _ rfl _ rfl
/-- Less is kept. -/
theorem Rel.weak {F F' : Frm} {δ : Pl} {h : Hp} {W W' : World} (hR : Rel F' δ h W') (hw : F'.w0 = W) (hok : F.ok W) (hk : ∀ b, b < F.w0.heap.size → F.keep b → F'.keep b) : Rel F δ h W' := by
  have hWsz : W.heap.size ≤ W'.heap.size := by have := hR.ok.size; rw [hw] at this; exact this
  have hblk : ∀ b, b < W.heap.size → F'.keep b → W'.heap[b]? = W.heap[b]? := fun b h1 h2 => by
    have := hR.ok.block b (by rw [hw]; exact h1) h2
    rw [hw] at this; exact this
  have hFfree : ∀ b, F'.free b → F.free b := fun b h1 h2 h3 => h1 (by rw [hw]; exact Nat.lt_of_lt_of_le h2 hok.size) (hk b h2 h3)
  refine ⟨⟨⟨?_, ?_, ?_, Nat.le_trans hok.size hWsz, fun b h1 h2 => ?_⟩, fun N hN => ?_, hR.apart⟩, hR.fresh⟩
  · have := hR.ok.os; rw [hw] at this; exact this.trans hok.os
  · have := hR.ok.tape; rw [hw] at this; exact this.trans hok.tape
  · have := hR.ok.output; rw [hw] at this; exact this.trans hok.output
  · rw [hblk b (Nat.lt_of_lt_of_le h1 hok.size) (hk b h1 h2)]; exact hok.block b h1 h2
  · obtain ⟨b, c, hb, ho⟩ := hR.own N hN
    exact ⟨b, c, hb, ho.keep (hFfree b) (Pl.le_refl _) rfl⟩
theorem skD_inv : ∀ {l : List Oper} {e : VE} {κ : VE → Bool}, skD l n e κ = true → ∃ e', κ e' = true ∧ ∀ t, e'.at t = .skp ∨ (e'.at t = e.at t ∧ ∀ o ∈ l, o.dst ≠ some t ∨ ¬ t < n)
  | [], e, κ, h => ⟨e, h, fun t => .inr ⟨rfl, fun o ho => by cases ho⟩⟩
  | o :: l, e, κ, h => by
    obtain ⟨e1, h1, hput⟩ := putK_inv (show putK o.dst n .skp e (fun e' => skD l n e' κ) = true from h)
    obtain ⟨e2, h2, h3⟩ := skD_inv h1
    refine ⟨e2, h2, fun t => ?_⟩
    rcases h3 t with h4 | ⟨h4, h5⟩
    · exact .inl h4
    · rcases hput with ⟨hd, rfl⟩ | ⟨t0, hd, hn, a1, a2⟩
      · refine .inr ⟨h4, fun o' ho' => ?_⟩
        rcases List.mem_cons.1 ho' with rfl | ho'
        · exact .inl (by rw [hd]; simp)
        · exact h5 o' ho'
      · by_cases ht : t = t0
        · subst ht
          exact .inl (h4.trans a1)
        · refine .inr ⟨h4.trans (a2 t ht), fun o' ho' => ?_⟩
          rcases List.mem_cons.1 ho' with rfl | ho'
          · exact .inl (by rw [hd]; exact fun e => ht (Option.some.inj e).symm)
          · exact h5 o' ho'
/-- A region that draws its order. -/
theorem evDraw_ok (p : Pg P ty fu) {call : CallT} (hc : CallS P call) {id : Nat} {rd : Option Nat} (hB : parB ops = true) {e : VE} {d : Ds} {h : Hp} {kn : KN} {kx : KX}
    (hk : (evPar (fun v h => skD ops.toList n e fun e => kx (.pan v) e d h) (ops.toList.take (tailX ops)) 0 (ancTab (ops.toList.map depsOf)) ops.toList n ty call e h [] [] [] fun e h => evOps (ops.toList.drop (tailX ops)) ops.toList n ty call (bNot (optIs rd)) e d h kn kx) = true) :
    Outc n rd (fun b Q => wpM P b (.region id ops true) Q) e d h kn kx := by
  have hp := parOk_of hB
  obtain ⟨m, hm⟩ : ∃ m, m = tailX ops := ⟨_, rfl⟩
  rw [← hm] at hk
  have hDlt0 : ∀ i, i < (ops.toList.map depsOf).length → ∀ j ∈ (ops.toList.map depsOf).getD i [], j < i := fun i hi j hj => by
    have hi : i < ops.size := by simpa using hi
    rw [show (ops.toList.map depsOf).getD i [] = depsOf ops[i] by simp [hi]] at hj
    obtain ⟨ed, h1, h2, rfl⟩ := mem_depsOf.1 hj
    exact hp.acyc i _ (Array.getElem?_eq_getElem hi) ed h1 h2
  obtain ⟨hmle, hmB, hmA⟩ := tailX_spec ops hDlt0
  rw [← hm] at hmle hmB hmA
  obtain ⟨pc, st, kd, r, h0, hst, hend⟩ := evPar_stp (s := ⟨h, e, [], [], []⟩) p hc _ _ _ (fun q hq => by cases hq) hk
  have hlen : (ops.toList.take m).length = m := by simp; omega
  have hnr : bNot (optIs rd) = true → rd = none := fun h => by cases rd with
    | none => rfl
    | some _ => cases h
  have hD : ∀ i o, ops[i]? = some o → (ops.toList.map depsOf).getD i [] = depsOf o := fun i o ho => by simp [ho]
  have hDlt : ∀ i, i < (ops.toList.map depsOf).length → ∀ j ∈ (ops.toList.map depsOf).getD i [], j < i := fun i hi j hj => by
    have hi : i < ops.size := by simpa using hi
    rw [hD i _ (Array.getElem?_eq_getElem hi)] at hj
    obtain ⟨ed, h1, h2, rfl⟩ := mem_depsOf.1 hj
    exact hp.acyc i _ (Array.getElem?_eq_getElem hi) ed h1 h2
  have hanc := (ancTab_spec _ hDlt).2
  have wtA : ∀ c A, (ancTab (ops.toList.map depsOf))[c]? = some A → ∀ u, memN A u = true → wt (ops.toList.map depsOf) c u := fun c A hA u hu S hSc hc => by
    refine hanc S hSc c (fun j hj => hSc c hc j hj) u ?_
    rw [List.getD_eq_getElem?_getD, hA]
    exact memN_mem hu
  have stp : ∀ c, c < m → ∃ o A, ops[c]? = some o ∧ Stp P ops n pc A c o (st c) (kd c) (r c) (st (c + 1)) ∧ ∀ u, memN A u = true → wt (ops.toList.map depsOf) c u := fun c hcm => by
    have hcs : c < ops.size := by omega
    have ho : (ops.toList.take m)[c]? = some ops[c] := by rw [List.getElem?_take_of_lt hcm]; simp [hcs]
    obtain ⟨A, hA, hS⟩ := hst c _ ho
    rw [Nat.zero_add] at hS
    exact ⟨_, A, Array.getElem?_eq_getElem hcs, hS, wtA c A hA⟩
  have pan : ∀ c, pc = some c → c < m → ∃ o A, ops[c]? = some o ∧ (∀ u, memN A u = true → wt (ops.toList.map depsOf) c u) ∧ PanF P ops A o (st c) (kd c) (r c) (st (c + 1)) := fun c hc hcm => by
    rcases hend with ⟨h1, _⟩ | ⟨c', o, A, h1, h2, h3, h4, _⟩
    · rw [h1] at hc; cases hc
    · rw [h1] at hc
      have : c' = c := by have := Option.some.inj hc; omega
      subst this
      refine ⟨o, A, ?_, wtA c' A h3, h4⟩
      rw [List.getElem?_take_of_lt hcm] at h2
      simpa using h2
  have trc : h.fresh → Trc P ops n pc (ops.toList.map depsOf) m st kd r := fun hf => ⟨by rw [h0], by rw [h0], by rw [h0], by rw [h0]; exact hf, stp, pan⟩
  have hnext : ∀ c, c ≤ m → h.next ≤ (st c).h.next := by
    intro c
    induction c with
    | zero => intro _; rw [h0]; exact Nat.le_refl _
    | succ c ih =>
      intro hcm
      obtain ⟨o, A, _, hS, _⟩ := stp c hcm
      exact Nat.le_trans (ih (by omega)) hS.next
  rcases hend with ⟨hpc, hF, hFA, hκ⟩ | ⟨c, o, A, hpc, hlo, hA, hPF, hκ⟩
  · rw [hlen] at hFA hκ
    have hrest := evOps_ok p hc (rd := rd) hnr (ops.toList.drop m) m (fun j => by simp) (st m).e d hF hκ
    have hgrow : Grow h hF := by
      constructor
      · have h1 := hnext m (Nat.le_refl _)
        rw [hFA.next]; exact h1
      · intro hf N hN
        have T := trc hf
        have Hm := T.at' (Nat.le_refl m)
        obtain ⟨f1, f2⟩ := hFA.facts Hm.nodup
        rw [hFA.next] at hN
        rw [f2 N (fun h => by obtain ⟨f, h1, h2⟩ := List.mem_map.1 h; have := (Hm.flt f h1).1; omega)]
        exact Hm.fresh N hN
    refine Outc.step (wp' := fun b Q => wpOpsM P b ops Q (List.range' m (ops.size - m))) hgrow hrest fun F δ W E Dd b hR hE hO hDs hb Q hn => ?_
    have T := trc fun N hN => (hR.fresh N hN).2
    have hR0 : Rel F δ (st 0).h W := by rw [h0]; exact hR
    have hE0 : EnvR δ (st 0).e E := by rw [h0]; exact hE
    refine par_sound hO hB p.mixed hmle hmA hmB (PInvX F δ m st kd r pc) (X := fun _ _ => False) (fun _ _ _ h => h.elim) (fun vs => ⟨⟨δ, PD.start T (hR0.drewN 1)⟩, fun _ _ => rfl⟩)
      (par_one T hp hD hE0 (fun N hN => (hR0.fresh N hN).1) fun c _ _ _ _ _ _ h => by rw [hpc] at h; cases h) fun S vs W' ⟨⟨δ', H⟩, _⟩ hall => ?_
    obtain ⟨h1, h2⟩ := H.fin T hall hFA
    rw [h0] at h2
    exact hn δ' _ Dd W' h2 (H.env T hp hmle hE0 hall) (EnvOk.deps hO _) (hDs.mono h2.le) h1 (hb.mono h2.le)
  · rw [Nat.zero_add] at hpc
    have hcm : c < m := by
      have := (List.getElem?_eq_some_iff.1 hlo).1
      omega
    have hgrow : Grow h (st (c + 1)).h := by
      refine ⟨hnext (c + 1) hcm, fun hf => ?_⟩
      exact ((trc hf).at' (show c + 1 ≤ m from hcm)).fresh
    obtain ⟨e', hκ', hsk⟩ := skD_inv hκ
    refine .inr ⟨.pan (r c), e', d, (st (c + 1)).h, hκ', hgrow, fun F δ W E Dd b hR hE hO hDs hb Q hQ => ?_⟩
    have T := trc fun N hN => (hR.fresh N hN).2
    have hR0 : Rel F δ (st 0).h W := by rw [h0]; exact hR
    have hE0 : EnvR δ (st 0).e E := by rw [h0]; exact hE
    refine par_sound hO hB p.mixed hmle hmA hmB (PInvX F δ m st kd r pc) (X := fun ch W' => ∃ δ' y, Ex h δ δ' ∧ dec δ' (r c) = some y ∧ ch = [{ v := y, recovered := false }] ∧ Rel F δ' (st (c + 1)).h W') ?_ (fun vs => ⟨⟨δ, PD.start T (hR0.drewN 1)⟩, fun _ _ => rfl⟩)
      (par_one T hp hD hE0 (fun N hN => (hR0.fresh N hN).1) ?_) fun S vs W' ⟨_, hS⟩ hall => ?_
    · rintro ch a W' ⟨δ', y, x, hy, rfl, hR'⟩ hd hsz hout
      have := hQ δ' (envOf a) Dd W' _ x (.inr ⟨⟨_, rfl⟩, fun t => ?_⟩) (envOf_ok hsz) (hDs.mono x.le) ⟨y, hy, rfl⟩ hR'
      · rw [← hd, act_self hsz] at this
        exact this
      · rcases hsk t with h1 | ⟨h1, h2⟩
        · exact .inl h1
        · refine .inr ?_
          rw [h1]
          by_cases htn : t < n
          · rw [hout t fun j oj hj => (h2 oj (by have := Array.mem_of_getElem? hj; simpa using this)).resolve_right (fun h => h htn)]
            exact dec_mono x.le _ _ (hE t)
          · have e1 : envOf a t = E t := by rw [envOf_ok hsz t (by omega), hO t (by omega)]
            rw [e1]
            exact dec_mono x.le _ _ (hE t)
    · rintro c' F' δ1 δ2 y W1 W1' hpc' hlt ⟨S, u, H⟩ f1 f2 hex hy hR'
      have : c' = c := by rw [hpc] at hpc'; exact (Option.some.inj hpc').symm
      subst this
      have hnx := T.nx (Nat.zero_le c') (Nat.le_of_lt hlt)
      refine ⟨δ2, y, ⟨fun N q hq => ?_, fun N hN => ?_⟩, hy, rfl, hR'.weak f1 H.ok f2⟩
      · have hN : N < (st 0).h.next := by
          rcases Nat.lt_or_ge N (st 0).h.next with h1 | h1
          · exact h1
          · rw [(hR0.fresh N h1).1] at hq; cases hq
        refine hex.le N q ?_
        rw [cut_get (by omega)]; exact H.le N q hq
      · have hN : N < (st 0).h.next := by rw [h0]; exact hN
        rw [hex.old N (by omega), cut_get (by omega), H.old N hN]
    · have h1 := hall c hcm
      rw [hS c hpc] at h1; cases h1
end
end Go.L.Ev
namespace Go.L.Ev
open Go Go.RowKit
variable [Ext]
set_option linter.unusedSimpArgs false
set_option linter.unusedVariables false
section
variable {P : Program} {ty : TyT} {fu : FuT}

/-! ### Loops -/
/-- Between two rounds. -/
def lpM (P : Program) (rd : Option Nat) (c : Code) (Q : Exit → Act → World → Prop) (a : Act) (w : World) : Prop :=
  ∀ (b : Frame) (k : List Item) (cs : List Frame), b.roundOf = rd → ∃ e a' w', Q e a' w' ∧ Arr P (lone (b.atR a (.code c :: .inLoop c :: k)) cs w) b k cs e a' w'
theorem lpM_step {rd : Option Nat} {c : Code} {Q : Exit → Act → World → Prop} {a : Act} {w : World} (h : wpM P rd c (Exit.then (lpM P rd c Q) Q) a w) : lpM P rd c Q a w := by
  intro b k cs hr
  obtain ⟨e, a₁, w₁, hq, harr⟩ := h b (.inLoop c :: k) cs hr
  cases e with
  | normal =>
    obtain ⟨e₂, a₂, w₂, hq₂, harr₂⟩ := hq b k cs hr
    exact ⟨e₂, a₂, w₂, hq₂, .of_steps (Steps.trans harr (.one stepR_inLoop)) harr₂⟩
  | exit id => exact ⟨_, a₁, w₁, hq, .pass (x := .inLoop c) rfl (by simp) harr⟩
  | goto l => exact ⟨_, a₁, w₁, hq, .pass (x := .inLoop c) rfl (by simp) harr⟩
  | ret => exact ⟨_, a₁, w₁, hq, .pass (x := .inLoop c) rfl (by simp) harr⟩
  | panic ch => exact ⟨_, a₁, w₁, hq, .pass (x := .inLoop c) rfl (by simp) harr⟩
  | outgrown => exact harr.elim
theorem wpM_of_lpM {rd : Option Nat} {c : Code} {Q : Exit → Act → World → Prop} {a : Act} {w : World} (h : lpM P rd c Q a w) : wpM P rd (.loop c) Q a w := fun b k cs hr => by
  obtain ⟨e, a', w', hq, harr⟩ := h b k cs hr
  exact ⟨e, a', w', hq, .of_steps (.one stepR_loop) harr⟩

/-- The exits of another kind of code. -/
theorem Res.map {n : Nat} {rd : Option Nat} {wp wp' : WpT} {e : VE} {d : Ds} {h : Hp} {X X' : Option EX} {e' : VE} {d' : Ds} {h' : Hp} (R : Res n rd wp e d h X e' d' h') (hX : ∀ v, X = some (.pan v) → X' = some (.pan v))
    (H : ∀ b (Q : Exit → Act → World → Prop) a w, ∃ Q1 : Exit → Act → World → Prop, (wp b Q1 a w → wp' b Q a w) ∧ ∀ δ ex, exR δ X ex → ∃ ex', exR δ X' ex' ∧ ∀ a w, Q ex' a w → Q1 ex a w) : Res n rd wp' e d h X' e' d' h' := by
  refine ⟨R.1, fun F δ W E D b hR hE hO hD hb Q hQ => ?_⟩
  obtain ⟨Q1, h1, h2⟩ := H b Q (act n E D) W
  refine h1 (R.2 F δ W E D b hR hE hO hD hb Q1 fun δ' E' D' W' ex x hE' hO' hD' hex hR' => ?_)
  obtain ⟨ex', h3, h4⟩ := h2 δ' ex hex
  exact h4 _ _ (hQ δ' E' D' W' ex' x (hE'.imp id fun ⟨⟨v, h6⟩, h5⟩ => ⟨⟨v, hX v h6⟩, h5⟩) hO' hD' h3 hR')
theorem exNoGo_inv {x : EX} {κ : EX → Bool} (h : exNoGo x κ = true) : (∀ l, x ≠ .gt l) ∧ κ x = true := by
  cases x with
  | gt l => exact absurd (show false = true from h) (by decide)
  | _ => exact ⟨fun l h => (by cases h), h⟩
theorem exBlk_inv {x : EX} {id : Nat} {a : Bool} {κ : EX → Bool} (h : exBlk x id a κ = true) : (x = .ext id ∧ a = true) ∨ (x ≠ .ext id ∧ κ x = true) := by
  cases x with
  | ext j =>
    have h : iff (Nat.beq j id) a (κ (.ext j)) = true := h
    rcases iff_inv h with ⟨e1, h1⟩ | ⟨e1, h1⟩
    · exact .inl ⟨by rw [Nat.eq_of_beq_eq_true e1], h1⟩
    · exact .inr ⟨fun e => by cases e; simp at e1, h1⟩
  | _ => exact .inr ⟨fun e => (by cases e), h⟩
theorem codeEx_inv {c : Code} {κ : EX → Bool} (h : codeEx c κ = true) : (∃ id, c = .exit id ∧ κ (.ext id) = true) ∨ (c = .ret ∧ κ .ret = true) := by
  cases c with
  | exit id => exact .inl ⟨id, rfl, h⟩
  | ret => exact .inr ⟨rfl, h⟩
  | _ => exact absurd (show false = true from h) (by decide)
theorem obLp_inv {h : Hp} {l : Nat} {κ : LoopState → Option Code → Nat → VE → Array Tmp → Code → Code → Nat → Bool} (hk : obLp h l κ = true) : ∃ st p n e ps a b D, h.at l = .lp st p n e ps a b D ∧ κ st p n e ps a b D = true := by
  unfold obLp at hk
  rw [getK_eq] at hk
  show ∃ st p n e ps a b D, Tr.get .no h.t l = .lp st p n e ps a b D ∧ _
  cases ho : Tr.get .no h.t l <;> rw [ho] at hk <;> first | exact ⟨_, _, _, _, _, _, _, _, rfl, hk⟩ | simp at hk
theorem lsIs_t {s : LoopState} {n : Nat} (h : lsIs s n = true) : (@LoopState.rec (fun _ => Nat) 0 1 2 3 s) = n := Nat.eq_of_beq_eq_true h
theorem callF_inv {call : CallT} (hc : CallS P call) {v : RV} {args : List RV} {h : Hp} {k : K} {kp : KP} (hk : callF call v args h k kp = true) :
    ∃ f a b, v = .fn (.func f) a b ∧ ((∃ r h', k r h' = true ∧ FnR P f (a ++ (args ++ b)) h r h') ∨ ∃ r h', kp r h' = true ∧ FnP P f (a ++ (args ++ b)) h r h') := by
  cases v with
  | fn f a b =>
    cases f with
    | func f =>
      have hk : (appK args b fun r => appK a r fun r => call false f r h k kp) = true := hk
      rw [appK_eq, appK_eq] at hk
      exact ⟨f, a, b, rfl, hc.fn _ _ _ _ _ hk⟩
    | _ => exact absurd (show false = true from hk) (by decide)
  | _ => exact absurd (show false = true from hk) (by decide)
/-- A thing is let go as it changes. -/
theorem Rel.gone {F : Frm} {δ : Pl} {h h' : Hp} {W W' : World} (H : Rel F δ h W) {i b c : Nat} (hi : h.at i ≠ .no) (hb : δ i = some (b, c)) (hg : W.grownBy W' (some b)) (hn : h'.next = h.next) (hat : h'.at i = .no) (hold : ∀ j, j ≠ i → h'.at j = h.at j) : Rel F δ h' W' := by
  have hlt := H.lt hi hb
  refine H.step (some b) hg (Pl.le_refl _) (fun j hj => ?_) i (fun j hj => .inl (hold j hj)) (fun b0 h0 => ?_) (.inl hat)
  · rw [hn] at hj
    have := H.fresh j hj
    have hne : j ≠ i := fun e => hi (by rw [← e]; exact this.2)
    exact ⟨this.1, by rw [hold j hne]; exact this.2⟩
  · cases h0
    refine ⟨hlt.1, fun j hj hnj b' c' hb' => ?_⟩
    rw [hold j hj] at hnj
    exact H.apart j i _ _ _ _ hnj hi hj hb' hb
theorem grown_putObj (W : World) (b : Nat) (o : Obj) : W.grownBy (W.putObj b o) (some b) :=
  ⟨rfl, rfl, rfl, by simp [World.putObj], fun k _ hne => World.putObj_heap_other (fun e => hne (by rw [e]))⟩
/-- What follows a loop: a jump that waits. -/
def jumpQ (P : Program) (b : Option Nat) (Q : Exit → Act → World → Prop) (p : Option Code) (a : Act) (w : World) : Prop := match p with
  | none => Q .normal a w
  | some c => wpM P b c Q a w
theorem range_core {call : CallT} (hc : CallS P call) {g : Operand} {ps : Array Tmp} {asn body : Code} {n : Nat} {rd : Option Nat} {e : VE} {d : Ds} {h : Hp} {kn : KN} {kx : KX} {gv : RV} (hgv : ∀ δ E, EnvR δ e E → dec δ gv = some (ev E g))
    {h2 : Hp} {l : Nat} {dd : Ds} (hg2 : Grow h h2)
    (S2 : ∀ F δ W E Dv b, Rel F δ h W → EnvR δ e E → EnvOk n E → DsR δ d Dv → RdR δ rd b → ∀ fn, ∃ lb mk δ2 W1 c, (Instr.enterLoop fn (act n E Dv).tmps ps asn body b).run P W = .ok (lb, mk) W1 ∧ Ex h δ δ2 ∧ δ2 l = some (lb, c) ∧ Rel F δ2 h2 W1 ∧ DsR δ2 dd (mk ++ Dv))
    (hk : callF call gv [.yld l] h2 (fun _ h3 => obLp h3 l fun st p _ _ _ _ _ _ => iff (lsIs st 1) false (setO l .no h3 fun h4 => @Option.rec Code (fun _ => Bool) (kn e dd h4) (fun c => codeEx c fun x => kx x e dd h4) p)) (fun v h3 => kx (.pan v) e dd h3) = true) :
    Outc n rd (fun b Q => wpM P b (.rangeFunc g ps asn body) Q) e d h kn kx := by
  obtain ⟨f, a, bb, rfl, hcall⟩ := callF_inv hc hk
  -- how it is gone about
  have enter : ∀ {R : Pl → Ending → World → Prop} {F δ W E Dv b} {Q : Exit → Act → World → Prop}, Rel F δ h W → EnvR δ e E → EnvOk n E → DsR δ d Dv → RdR δ rd b → (∀ args w, (callFunc f args).run P w = .ok (.enter f args) w) →
      (∀ δ2 W1 vs, Rel F δ2 h2 W1 → decL δ2 (a ++ ([.yld l] ++ bb)) = some vs → Calls P f vs.toArray W1 (R δ2)) →
      (∀ lb mk δ2 c en W3, Ex h δ δ2 → δ2 l = some (lb, c) → DsR δ2 dd (mk ++ Dv) → R δ2 en W3 → rangePostM P b lb Q { act n E Dv with defers := mk ++ Dv } en W3) → wpM P b (.rangeFunc g ps asn body) Q (act n E Dv) W := by
    intro R F δ W E Dv b Q hR hE hO hD hb hcf hCalls hpost
    refine wpM_rangeFunc fun fn => ?_
    obtain ⟨lb, mk, δ2, W1, c, h1, h3, h4, h5, h6⟩ := S2 F δ W E Dv b hR hE hO hD hb fn
    obtain ⟨y, z, hy, hz, hval⟩ := dec_fn (dec_mono h3.le _ _ (hgv δ E hE))
    have hargs : decL δ2 (a ++ ([.yld l] ++ bb)) = some (y ++ ([Value.func (.yield lb) #[] #[]] ++ z)) := decL_append hy (decL_append (decL_cons (by simp [dec, h4]) decL_nil) hz)
    refine ⟨lb, mk, W1, { target := .fn (.func f) z.toArray, args := y.toArray ++ #[.func (.yield lb) #[] #[]] }, W1, f, y.toArray ++ #[.func (.yield lb) #[] #[]] ++ z.toArray, W1, h1, ?_, ?_, ?_⟩
    · rw [act_eval hO]
      simp only [resolve, rangeCall, hval]
      simp [go_sem, ev, Deferred.ofValue]
    · simp [invoke, hcf]
    · have := hCalls δ2 W1 _ h5 hargs
      have e1 : (y ++ ([Value.func (.yield lb) #[] #[]] ++ z)).toArray = y.toArray ++ #[Value.func (.yield lb) #[] #[]] ++ z.toArray := by simp
      rw [e1] at this
      exact this.mono fun en W3 hR' => hpost lb mk δ2 c en W3 h3 h4 h6 hR'
  rcases hcall with ⟨r, h3, hk3, hg3, hcf, hF⟩ | ⟨v, h3, hk3, hg3, hcf, hF⟩
  · obtain ⟨st, p, n', e', ps', a', b', D', hat, hk4⟩ := obLp_inv hk3
    obtain ⟨hst, hk5⟩ := iff_f hk4
    obtain ⟨h4, hk6, a1, a2, a3⟩ := setO_inv hk5
    have hgr : Grow h h4 := hg2.trans (hg3.trans (Grow.set (by rw [hat]; simp) a1 a3))
    have res : ∀ (X : Option EX) (exX : Exit), (∀ δ, exR δ X exX) → (∀ (b : Option Nat) (Q : Exit → Act → World → Prop) a w, Q exX a w → jumpQ P b Q p a w) → Res n rd (fun b Q => wpM P b (.rangeFunc g ps asn body) Q) e d h X e dd h4 := by
      intro X exX hX hJ
      refine ⟨hgr, fun F δ W E Dv b hR hE hO hD hb Q hQ => enter (R := fun δ2 en W' => _) hR hE hO hD hb hcf (fun δ2 W1 vs => hF F δ2 W1 vs) ?_⟩
      rintro lb mk δ2 c en W3 x2 hl hD2 ⟨δ3, y, x3, _, rfl, hR3⟩
      have hl3 := x3.le _ _ hl
      obtain ⟨lb', c', hlb, hO3⟩ := hR3.get hat (by simp)
      rw [hl3] at hlb; cases hlb
      obtain ⟨hfree, fn0, E0, Db, Dc, q1, q2, q3, hheap⟩ := hO3
      refine ⟨p, _, run_endLoop hheap (fun hb => by dsimp only at hb; rw [hb] at hst; cases hst), ?_⟩
      have hR4 := hR3.gone (by rw [hat]; simp) hl3 (grown_putObj W3 lb (.loop { state := .exhausted, pending := p, fn := fn0, tmps := (act n' E0 []).tmps, params := ps', assign := a', body := b', defers := Db })) a1 a2 a3
      have hx : Ex h δ δ3 := x2.trans hg2.next x3
      have := hJ b Q (act n E (mk ++ Dv)) _ (hQ δ3 E (mk ++ Dv) _ exX hx (.inl (hE.mono hx.le)) hO (hD2.mono x3.le) (hX δ3) hR4)
      cases p <;> exact this
    cases p with
    | none => exact .inl ⟨e, dd, h4, hk6, res none .normal (fun _ => rfl) fun b Q a w h => h⟩
    | some c =>
      rcases codeEx_inv hk6 with ⟨id, rfl, h7⟩ | ⟨rfl, h7⟩
      · exact .inr ⟨_, e, dd, h4, h7, res _ (.exit id) (fun _ => rfl) fun b Q a w h => wpM_exit h⟩
      · exact .inr ⟨_, e, dd, h4, h7, res _ .ret (fun _ => rfl) fun b Q a w h => wpM_ret h⟩
  · refine .inr ⟨.pan v, e, dd, h3, hk3, hg2.trans hg3, fun F δ W E Dv b hR hE hO hD hb Q hQ => enter (R := fun δ2 en W' => _) hR hE hO hD hb hcf (fun δ2 W1 vs => hF F δ2 W1 vs) ?_⟩
    rintro lb mk δ2 c en W3 x2 hl hD2 ⟨δ3, y, x3, hy, rfl, hR3⟩
    have hx : Ex h δ δ3 := x2.trans hg2.next x3
    exact hQ δ3 E (mk ++ Dv) _ _ hx (.inl (hE.mono hx.le)) hO (hD2.mono x3.le) ⟨y, hy, rfl⟩ hR3
end
end Go.L.Ev
namespace Go.L.Ev
open Go Go.RowKit
variable [Ext]
set_option linter.unusedSimpArgs false
set_option linter.unusedVariables false
section
variable {P : Program} {ty : TyT} {fu : FuT}

theorem then_ne {K : Act → World → Prop} {Q : Exit → Act → World → Prop} {ex : Exit} (h : ex ≠ .normal) : Exit.then K Q ex = Q ex := by
  cases ex <;> first | exact absurd rfl h | rfl
theorem exR_ne {δ : Pl} {x : EX} {ex : Exit} (h : exR δ (some x) ex) : ex ≠ .normal := by
  cases x with
  | pan v => obtain ⟨y, _, rfl⟩ := h; simp
  | _ => cases h; simp
/-- First one code, then another. -/
theorem Outc.seq {n : Nat} {rd : Option Nat} {wpa wpb wp : WpT} {e : VE} {d : Ds} {h : Hp} {kn1 kn : KN} {kx : KX} (A : Outc n rd wpa e d h kn1 kx) (B : ∀ e d h, kn1 e d h = true → Outc n rd wpb e d h kn kx)
    (S : ∀ b Q a w, wpa b (Exit.then (wpb b Q) Q) a w → wp b Q a w) : Outc n rd wp e d h kn kx := by
  rcases A with ⟨e1, d1, h1, h2, R⟩ | ⟨x, e1, d1, h1, h2, R⟩
  · refine Outc.step R.1 (B e1 d1 h1 h2) fun F δ W E D b hR hE hO hD hb Q hn => S b Q _ _ ?_
    refine R.2 F δ W E D b hR hE hO hD hb _ fun δ' E' D' W' ex x hE' hO' hD' hex hR' => ?_
    cases hex
    exact hn δ' E' D' W' x hE'.n hO' hD' hR' (hb.mono x.le)
  · refine .inr ⟨x, e1, d1, h1, h2, R.1, fun F δ W E D b hR hE hO hD hb Q hQ => S b Q _ _ ?_⟩
    refine R.2 F δ W E D b hR hE hO hD hb _ fun δ' E' D' W' ex x hE' hO' hD' hex hR' => ?_
    rw [then_ne (exR_ne hex)]
    exact hQ δ' E' D' W' ex x hE' hO' hD' hex hR'
/-- At once. -/
theorem Outc.now {n : Nat} {rd : Option Nat} {wp : WpT} {e : VE} {d : Ds} {h : Hp} {kn : KN} {kx : KX} (hk : kn e d h = true) (H : ∀ b Q a w, Q .normal a w → wp b Q a w) : Outc n rd wp e d h kn kx :=
  .inl ⟨e, d, h, hk, Grow.refl h, fun F δ W E D b hR hE hO hD hb Q hQ => H b Q _ _ (hQ δ E D W .normal (Ex.refl _ _) (.inl hE) hO hD rfl hR)⟩
theorem Outc.out {n : Nat} {rd : Option Nat} {wp : WpT} {e : VE} {d : Ds} {h : Hp} {kn : KN} {kx : KX} {x : EX} {ex : Exit} (hk : kx x e d h = true) (hx : ∀ δ, exR δ (some x) ex) (H : ∀ b Q a w, Q ex a w → wp b Q a w) : Outc n rd wp e d h kn kx :=
  .inr ⟨x, e, d, h, hk, Grow.refl h, fun F δ W E D b hR hE hO hD hb Q hQ => H b Q _ _ (hQ δ E D W ex (Ex.refl _ _) (.inl hE) hO hD (hx δ) hR)⟩
theorem evLoop_ok {n : Nat} {rd : Option Nat} {c : Code} {kx : KX} {body : VE → Ds → Hp → KN → KX → Bool} (ih : ∀ e d h kn, body e d h kn kx = true → Outc n rd (fun b Q => wpM P b c Q) e d h kn kx) :
    ∀ (m : Nat) (e : VE) (d : Ds) (h : Hp), @Nat.rec (fun _ => VE → Ds → Hp → Bool) (fun _ _ _ => false) (fun _ rec e d h => body e d h rec kx) m e d h = true → ∀ kn, Outc n rd (fun b Q => lpM P b c Q) e d h kn kx
  | 0, e, d, h, hk, kn => by cases hk
  | m + 1, e, d, h, hk, kn => Outc.seq (ih e d h _ hk) (fun e d h hk => evLoop_ok ih m e d h hk kn) fun b Q a w hw => lpM_step hw
theorem evC_ok (p : Pg P ty fu) {call : CallT} (hc : CallS P call) {n m : Nat} : ∀ (c : Code) (rd : Option Nat) (e : VE) (d : Ds) (h : Hp) (kn : KN) (kx : KX), evC c ty call n m rd e d h kn kx = true → Outc n rd (fun b Q => wpM P b c Q) e d h kn kx
  | .skip, rd, e, d, h, kn, kx, hk => Outc.now hk fun _ _ _ _ h => wpM_skip h
  | .label l, rd, e, d, h, kn, kx, hk => Outc.now hk fun _ _ _ _ h => wpM_label h
  | .exit id, rd, e, d, h, kn, kx, hk => Outc.out (ex := .exit id) hk (fun _ => rfl) fun _ _ _ _ h => wpM_exit h
  | .goto l, rd, e, d, h, kn, kx, hk => Outc.out (ex := .goto l) hk (fun _ => rfl) fun _ _ _ _ h => wpM_goto h
  | .ret, rd, e, d, h, kn, kx, hk => Outc.out (ex := .ret) hk (fun _ => rfl) fun _ _ _ _ h => wpM_ret h
  | .refuse _, rd, e, d, h, kn, kx, hk => absurd (show false = true from hk) (by decide)
  | .region id ops dr, rd, e, d, h, kn, kx, hk => by
    have hnr : bNot (optIs rd) = true → rd = none := fun h => by cases rd with
      | none => rfl
      | some _ => cases h
    have hk : iff dr (iff (parB ops) (evPar (fun v h => skD ops.toList n e fun e => kx (.pan v) e d h) (ops.toList.take (tailX ops)) 0 (ancTab (ops.toList.map depsOf)) ops.toList n ty call e h [] [] [] fun e h => evOps (ops.toList.drop (tailX ops)) ops.toList n ty call (bNot (optIs rd)) e d h kn kx) false)
      (evOps ops.toList ops.toList n ty call (bNot (optIs rd)) e d h kn kx) = true := hk
    rcases iff_inv hk with ⟨rfl, h1⟩ | ⟨rfl, h1⟩
    · obtain ⟨hB, h2⟩ := iff_t h1
      exact evDraw_ok p hc hB h2
    · have := evOps_ok p hc (ops := ops) hnr ops.toList 0 (fun j => by simp) e d h h1
      refine Outc.step (Grow.refl h) this fun F δ W E D b hR hE hO hD hb Q hn => ?_
      have h2 := hn δ E D W (Ex.refl _ _) hE hO hD hR hb
      refine wpM_region ?_
      rw [List.range_eq_range']
      exact h2
  | .seq a b, rd, e, d, h, kn, kx, hk => Outc.seq (evC_ok p hc a rd e d h _ _ hk) (fun e d h hk => evC_ok p hc b rd e d h _ _ hk) fun _ _ _ _ h => wpM_seq h
  | .cond c a b, rd, e, d, h, kn, kx, hk => by
    have hk : (opd c e fun v => rvBool v fun t => iff t (evC a ty call n m rd e d h kn kx) (evC b ty call n m rd e d h kn kx)) = true := hk
    obtain ⟨v, h1, hv⟩ := opd_inv hk
    obtain ⟨t, rfl, h2⟩ := rvBool_inv h1
    have hcv : ∀ δ E D, EnvR δ e E → EnvOk n E → (act n E D).eval c = .bool t := fun δ E D hE hO => by
      rw [act_eval hO]; exact dec_bool (hv δ E hE)
    rcases iff_inv h2 with ⟨rfl, h3⟩ | ⟨rfl, h3⟩
    · exact Outc.step (Grow.refl h) (evC_ok p hc a rd e d h _ _ h3) fun F δ W E D b' hR hE hO hD hb Q hn => wpM_cond (hcv δ E D hE hO) (hn δ E D W (Ex.refl _ _) hE hO hD hR hb)
    · exact Outc.step (Grow.refl h) (evC_ok p hc b rd e d h _ _ h3) fun F δ W E D b' hR hE hO hD hb Q hn => wpM_cond (hcv δ E D hE hO) (hn δ E D W (Ex.refl _ _) hE hO hD hR hb)
  | .block id c, rd, e, d, h, kn, kx, hk => by
    have := evC_ok p hc c rd e d h kn (fun x e d h => exBlk x id (kn e d h) fun x => kx x e d h) hk
    rcases this with ⟨e1, d1, h1, h2, R⟩ | ⟨x, e1, d1, h1, h2, R⟩
    · exact .inl ⟨e1, d1, h1, h2, R.map (fun _ h => h) fun b Q a w => ⟨Exit.inBlock id Q, wpM_block, fun δ ex hex => ⟨.normal, rfl, fun a w h => by cases hex; exact h⟩⟩⟩
    · rcases exBlk_inv h2 with ⟨rfl, h3⟩ | ⟨hne, h3⟩
      · refine .inl ⟨e1, d1, h1, h3, R.map (fun v h => by cases h) fun b Q a w => ⟨Exit.inBlock id Q, wpM_block, fun δ ex hex => ⟨.normal, rfl, fun a w h => ?_⟩⟩⟩
        cases hex
        simp only [Exit.inBlock, if_true]; exact h
      · refine .inr ⟨x, e1, d1, h1, h3, R.map (fun _ h => h) fun b Q a w => ⟨Exit.inBlock id Q, wpM_block, fun δ ex hex => ⟨ex, hex, fun a w h => ?_⟩⟩⟩
        cases x with
        | ext j =>
          cases hex
          have : j ≠ id := fun e => hne (by rw [e])
          simp only [Exit.inBlock, if_neg this]; exact h
        | pan v => obtain ⟨y, _, rfl⟩ := hex; exact h
        | _ => cases hex; exact h
  | .loop c, rd, e, d, h, kn, kx, hk => by
    have := evLoop_ok (P := P) (n := n) (rd := rd) (c := c) (kx := kx) (body := fun e d h rec kx => evC c ty call n m rd e d h rec kx) (fun e d h kn hk => evC_ok p hc c rd e d h kn kx hk) m e d h hk kn
    rcases this with ⟨e1, d1, h1, h2, R⟩ | ⟨x, e1, d1, h1, h2, R⟩
    · exact .inl ⟨e1, d1, h1, h2, R.map (fun _ h => h) fun b Q a w => ⟨Q, wpM_of_lpM, fun δ ex hex => ⟨ex, hex, fun _ _ h => h⟩⟩⟩
    · exact .inr ⟨x, e1, d1, h1, h2, R.map (fun _ h => h) fun b Q a w => ⟨Q, wpM_of_lpM, fun δ ex hex => ⟨ex, hex, fun _ _ h => h⟩⟩⟩
  | .scope c, rd, e, d, h, kn, kx, hk => by
    have := evC_ok p hc c rd e d h kn (fun x e d h => exNoGo x fun x => kx x e d h) hk
    have sc : ∀ (b : Option Nat) (Q : Exit → Act → World → Prop) a w, wpM P b c (fun ex a w => (∀ l, ex ≠ .goto l) ∧ Q ex a w) a w → wpM P b (.scope c) Q a w := fun b Q a w h =>
      wpM_mono (wpM_scope (fun l a w h => h.1 l rfl) h) fun ex a w h => h.2
    rcases this with ⟨e1, d1, h1, h2, R⟩ | ⟨x, e1, d1, h1, h2, R⟩
    · exact .inl ⟨e1, d1, h1, h2, R.map (fun _ h => h) fun b Q a w => ⟨_, sc b Q a w, fun δ ex hex => ⟨ex, hex, fun _ _ h => ⟨fun l hl => (by cases hex; cases hl), h⟩⟩⟩⟩
    · obtain ⟨hng, h3⟩ := exNoGo_inv h2
      refine .inr ⟨x, e1, d1, h1, h3, R.map (fun _ h => h) fun b Q a w => ⟨_, sc b Q a w, fun δ ex hex => ⟨ex, hex, fun _ _ h => ⟨fun l hl => ?_, h⟩⟩⟩⟩
      cases x with
      | gt j => exact hng j rfl
      | pan v => obtain ⟨y, _, rfl⟩ := hex; cases hl
      | ext j => cases hex; cases hl
      | ret => cases hex; cases hl
  | .rangeFunc g ps asn body, rd, e, d, h, kn, kx, hk => by
    cases rd with
    | none =>
      have hk : (opd g e fun gv => push .df h fun D h => push (.lp .ready none n e ps asn body D) h fun l h => callF call gv [.yld l] h (fun _ h => obLp h l fun st p _ _ _ _ _ _ => iff (lsIs st 1) false (setO l .no h fun h =>
        @Option.rec Code (fun _ => Bool) (kn e (.mk D :: d) h) (fun c => codeEx c fun x => kx x e (.mk D :: d) h) p)) fun v h => kx (.pan v) e (.mk D :: d) h) = true := hk
      obtain ⟨gv, h1, hgv⟩ := opd_inv hk
      obtain ⟨h1', h2, a1, a2, a3⟩ := push_inv h1
      obtain ⟨h2', h3, b1, b2, b3⟩ := push_inv h2
      refine range_core hc hgv ((Grow.push a1 a3).trans (Grow.push b1 b3)) (dd := .mk h.next :: d) (fun F δ W E Dv b hR hE hO hD hb fn => ?_) h3
      cases hb
      have hf := (hR.fresh h.next (Nat.le_refl _)).1
      have hR1 := hR.push (c := 0) (World.grownBy_alloc W (.deferred (some [])) none) (Nat.le_refl _) a1 a2 a3 ⟨hR.ok.new (Nat.le_refl _), World.alloc_heap_new W _⟩
      have hf1 := (hR1.fresh h1'.next (Nat.le_refl _)).1
      have x1 : Ex h δ (δ.put h.next W.heap.size 0) := Ex.put hf
      have x2 : Ex h1' (δ.put h.next W.heap.size 0) ((δ.put h.next W.heap.size 0).put h1'.next (W.alloc (.deferred (some []))).heap.size 0) := Ex.put hf1
      have x := x1.trans (by omega) x2
      have hD2 : ((δ.put h.next W.heap.size 0).put h1'.next (W.alloc (.deferred (some []))).heap.size 0) h.next = some (W.heap.size, 0) := x2.le _ _ Pl.put_self
      have hsz : (W.alloc (.deferred (some []))).heap.size = W.heap.size + 1 := by simp
      refine ⟨W.heap.size + 1, [markOf W.heap.size], _, _, 0, run_enterLoop_outer fn _ ps asn body, x, by rw [Pl.put_self, hsz], ?_, .cons ⟨_, _, hD2, rfl⟩ (hD.mono x.le)⟩
      exact hR1.push (World.grownBy_alloc _ _ none) (Nat.le_refl _) b1 b2 b3 ⟨hR1.ok.new (Nat.le_refl _), fn, E, W.heap.size, 0, hE.mono x.le, hO, hD2, World.alloc_heap_new _ _⟩
    | some l0 =>
      have hk : (opd g e fun gv => obLp h l0 fun _ _ _ _ _ _ _ D => push (.lp .ready none n e ps asn body D) h fun l h => callF call gv [.yld l] h (fun _ h => obLp h l fun st p _ _ _ _ _ _ => iff (lsIs st 1) false (setO l .no h fun h =>
        @Option.rec Code (fun _ => Bool) (kn e d h) (fun c => codeEx c fun x => kx x e d h) p)) fun v h => kx (.pan v) e d h) = true := hk
      obtain ⟨gv, h1, hgv⟩ := opd_inv hk
      obtain ⟨st0, p0, n0, e0, ps0, as0, bd0, D0, hat, h2⟩ := obLp_inv h1
      obtain ⟨h2', h3, b1, b2, b3⟩ := push_inv h2
      refine range_core hc hgv (Grow.push b1 b3) (dd := d) (fun F δ W E Dv b hR hE hO hD hb fn => ?_) h3
      obtain ⟨b0, c0, rfl, hb0⟩ := hb
      obtain ⟨b1', c1', hbb, hOb⟩ := hR.get hat (by simp)
      rw [hb0] at hbb; cases hbb
      obtain ⟨hfr, fn0, E0, Db, Dc, q1, q2, q3, hheap⟩ := hOb
      have hf := (hR.fresh h.next (Nat.le_refl _)).1
      have x : Ex h δ (δ.put h.next W.heap.size 0) := Ex.put hf
      refine ⟨W.heap.size, [], _, _, 0, run_enterLoop_inner hheap fn _ ps asn body, x, Pl.put_self, ?_, hD.mono x.le⟩
      exact hR.push (World.grownBy_alloc W _ none) (Nat.le_refl _) b1 b2 b3 ⟨hR.ok.new (Nat.le_refl _), fn, E, Db, Dc, hE.mono x.le, hO, x.le _ _ q3, World.alloc_heap_new W _⟩
end
end Go.L.Ev
namespace Go.L.Ev
open Go Go.RowKit
variable [Ext]
set_option linter.unusedSimpArgs false
set_option linter.unusedVariables false
section
variable {P : Program} {ty : TyT} {fu : FuT}

theorem setPs_inv {n : Nat} : ∀ {ps : List Tmp} {vs : List RV} {e : VE} {κ : VE → Bool}, setPs ps n vs e κ = true → ∃ e', κ e' = true ∧ vs.length = ps.length ∧
    ∀ δ E (all : List Value) (i : Nat) xs, EnvR δ e E → decL δ vs = some xs → all.drop i = xs → EnvR δ e' (setMany n E all ps i)
  | [], [], e, κ, h => ⟨e, h, rfl, fun δ E all i xs hE _ _ => hE⟩
  | [], _ :: _, e, κ, h => absurd (show false = true from h) (by decide)
  | p :: ps, [], e, κ, h => absurd (show false = true from h) (by decide)
  | p :: ps, v :: vs, e, κ, h => by
    obtain ⟨e1, h1⟩ := iff_t (b := Nat.blt p n) h
    obtain ⟨e', h2, a1, a2⟩ := Tr.set_inv (.tup []) _ _ _ _ h1
    obtain ⟨e2, h3, h4, h5⟩ := setPs_inv h2
    refine ⟨e2, h3, by simp [h4], fun δ E all i xs hE hxs hall => ?_⟩
    obtain ⟨x, ys, hx, hys, rfl⟩ := decL_cons_inv hxs
    have hg : all[i]? = some x := by
      have := congrArg (fun l : List Value => l[0]?) hall
      simpa using this
    refine h5 δ _ all (i + 1) ys (fun t => ?_) hys ?_
    · show dec δ (Tr.get (.tup []) e' t) = some (upd n E p (all.getD i undef) t)
      have hgd : all.getD i undef = x := by simp [List.getD_eq_getElem?_getD, hg]
      rw [hgd]
      by_cases ht : t = p
      · subst ht
        rw [upd_same (Nat.le_of_ble_eq_true e1)]
        show dec δ (Tr.get (.tup []) e' t) = _
        rw [a1]; exact hx
      · rw [upd_ne ht]
        show dec δ (Tr.get (.tup []) e' t) = _
        rw [a2 t ht]; exact hE t
    · rw [← List.drop_drop, hall]; rfl
theorem lsIs_ready {s : LoopState} (h : lsIs s 0 = true) : s = .ready := by cases s <;> first | rfl | exact absurd h (by decide)
theorem putObj_new {W : World} {b : Nat} {o o' : Obj} (h : W.heap[b]? = some o) : (W.putObj b o').heap[b]? = some o' := World.putObj_heap_same (Array.getElem?_eq_some_iff.1 h).1
theorem DsR.nil_inv {δ : Pl} {D : List Deferred} (h : DsR δ [] D) : D = [] := by cases h; rfl
/-- A loop's record is written anew. -/
theorem Rel.relp {F : Frm} {δ : Pl} {h h' : Hp} {W : World} (hR : Rel F δ h W) {l b c : Nat} {st st' : LoopState} {p p' : Option Code} {n : Nat} {e : VE} {ps : Array Tmp} {asn body : Code} {D : Nat} (hat : h.at l = .lp st p n e ps asn body D) (hb : δ l = some (b, c))
    (hn : h'.next = h.next) (hat' : h'.at l = .lp st' p' n e ps asn body D) (hold : ∀ j, j ≠ l → h'.at j = h.at j) :
    ∃ r : Loop, W.heap[b]? = some (.loop r) ∧ r.state = st ∧ Rel F δ h' (W.putObj b (.loop { r with state := st', pending := p' })) := by
  obtain ⟨b', c', hb', hO⟩ := hR.get hat (by simp)
  rw [hb] at hb'; cases hb'
  obtain ⟨hfr, fn, E, Db, Dc, q1, q2, q3, hheap⟩ := hO
  refine ⟨_, hheap, rfl, hR.put (by rw [hat]; simp) hb (grown_putObj W b _) hn hat' hold ⟨hfr, fn, E, Db, Dc, q1, q2, q3, putObj_new hheap⟩⟩
theorem endRd_ok {h : Hp} {l : Nat} {st : LoopState} {pe : Option Code} {κ : Hp → Bool} (hk : endRd h l st pe κ = true) (hst : st = if pe.isNone then .ready else .done) : ∃ h', κ h' = true ∧ Grow h h' ∧
    ∀ F δ W b c, Rel F δ h W → δ l = some (b, c) → ∃ W', (Instr.endRound b pe).run P W = .ok (.bool pe.isNone) W' ∧ Rel F δ h' W' := by
  obtain ⟨st0, p0, n0, e0, ps0, as0, bd0, D0, hat, h1⟩ := obLp_inv hk
  obtain ⟨h', h2, a1, a2, a3⟩ := setO_inv h1
  refine ⟨h', h2, Grow.set (by rw [hat]; simp) a1 a3, fun F δ W b c hR hb => ?_⟩
  obtain ⟨r, q1, q2, q3⟩ := hR.relp hat hb a1 a2 a3
  refine ⟨_, run_endRound pe q1, ?_⟩
  rw [← hst]; exact q3
theorem runY_ok (p : Pg P ty fu) {call : CallT} (hc : CallS P call) {m l : Nat} {args : List RV} {h : Hp} {k : K} {kp : KP} (hk : runY ty call m l args h k kp = true) :
    (∃ r h', k r h' = true ∧ YdR P l args h r h') ∨ ∃ r h', kp r h' = true ∧ YdP P l args h r h' := by
  obtain ⟨st0, p0, n, e, ps, asn, body, D0, hat, h1⟩ := obLp_inv hk
  obtain ⟨e1, h2, hlen, hps⟩ := setPs_inv h1
  rcases evC_ok p hc asn (some l) e1 [] h _ _ h2 with ⟨e2, d2, hh2, h3, RA⟩ | ⟨x, e2, d2, hh2, h3, _⟩
  rotate_left
  · cases h3
  cases d2 with
  | cons _ _ => cases h3
  | nil =>
    obtain ⟨st2, p2, n2, e2', ps2, as2, bd2, D2, hat2, h4⟩ := obLp_inv h3
    obtain ⟨hst2, h5⟩ := iff_t h4
    cases lsIs_ready hst2
    obtain ⟨hh2', h6, a1, a2, a3⟩ := setO_inv h5
    have gA : Grow h hh2' := RA.1.trans (Grow.set (by rw [hat2]; simp) a1 a3)
    have hB := evC_ok p hc body (some l) e2 [] hh2' _ _ h6
    -- a round, up to the body
    have round : ∀ {R : Ending → World → Prop} {F δ W vs b c}, Rel F δ h W → δ l = some (b, c) → decL δ args = some vs →
        (∀ δ2 E2 W2, Ex h δ δ2 → EnvR δ2 e2 E2 → EnvOk n E2 → Rel F δ2 hh2' W2 → wpM P (some b) body (roundPostM P b R) (act n E2 []) W2) → YieldC P b vs.toArray W R := by
      intro R F δ W vs b c hR hb hvs hbody
      obtain ⟨b', c', hb', hO⟩ := hR.get hat (by simp)
      rw [hb] at hb'; cases hb'
      obtain ⟨hfr, fn, E, Db, Dc, q1, q2, q3, hheap⟩ := hO
      have hvl : vs.length = ps.size := by rw [decL_len hvs, hlen]; simp
      refine ⟨fn, _, asn, body, run_yield hheap (by simpa using hvl), roundC_of_wpM ?_⟩
      have hset := setMany_act (n := n) (e := E) hvl
      have hE1 : EnvR δ e1 (setMany n E vs ps.toList 0) := hps δ E vs 0 vs q1 hvs (by simp)
      rw [← hset]
      refine RA.2 F δ W _ [] (some b) hR hE1 (q2.setMany _ _ _) .nil ⟨b, c, rfl, hb⟩ _ fun δ2 E2 D2' W2 ex x2 hE2 hO2 hD2 hex hR2 => ?_
      cases hex
      cases hD2.nil_inv
      obtain ⟨r, r1, r2, r3⟩ := hR2.relp hat2 (x2.le _ _ hb) a1 a2 a3
      refine ⟨_, run_beginRound r1 r2, ?_⟩
      have r4 : Rel F δ2 hh2' (W2.putObj b (.loop { r with state := .busy })) := by
        have e0 : ({ r with state := .busy, pending := p2 } : Loop) = { r with state := .busy } := by
          obtain ⟨b', c', hb', hO'⟩ := hR2.get hat2 (by simp)
          rw [x2.le _ _ hb] at hb'; cases hb'
          obtain ⟨_, fn', E', Db', Dc', _, _, _, hheap'⟩ := hO'
          rw [r1] at hheap'; cases hheap'; rfl
        rw [e0] at r3; exact r3
      exact hbody δ2 E2 _ x2 hE2.n hO2 r4
    rcases hB with ⟨e3, d3, h3', h7, RB⟩ | ⟨x, e3, d3, h3', h7, RB⟩
    · cases d3 with
      | cons _ _ => cases h7
      | nil =>
        obtain ⟨h4', h8, g4, hend⟩ := endRd_ok (P := P) (st := .ready) (pe := none) h7 rfl
        refine .inl ⟨.bool true, h4', h8, gA.trans (RB.1.trans g4), fun F δ W vs b c hR hb hvs => round hR hb hvs fun δ2 E2 W2 x2 hE2 hO2 hR2 => ?_⟩
        refine RB.2 F δ2 W2 E2 [] (some b) hR2 hE2 hO2 .nil ⟨b, c, rfl, x2.le _ _ hb⟩ _ fun δ3 E3 D3 W3 ex x3 hE3 hO3 hD3 hex hR3 => ?_
        cases hex
        obtain ⟨W4, r1, r2⟩ := hend F δ3 W3 b c hR3 (x3.le _ _ (x2.le _ _ hb))
        exact ⟨_, W4, r1, δ3, .bool true, x2.trans gA.next x3, by simp [dec], rfl, r2⟩
    · cases d3 with
      | cons _ _ => cases h7
      | nil =>
        have jump : ∀ (c0 : Code) (exX : Exit), (∀ δ ex, exR δ (some x) ex → ex = exX) → (∀ (R : Ending → World → Prop) b a w, (∃ v w', (Instr.endRound b (some c0)).run P w = .ok v w' ∧ R (.returned v) w') → roundPostM P b R exX a w) →
            (endRd h3' l .done (some c0) fun h4 => k (.bool false) h4) = true → ∃ r h', k r h' = true ∧ YdR P l args h r h' := by
          intro c0 exX hX hpost h8
          obtain ⟨h4', h9, g4, hend⟩ := endRd_ok (P := P) (st := .done) (pe := some c0) h8 rfl
          refine ⟨.bool false, h4', h9, gA.trans (RB.1.trans g4), fun F δ W vs b c hR hb hvs => round hR hb hvs fun δ2 E2 W2 x2 hE2 hO2 hR2 => ?_⟩
          refine RB.2 F δ2 W2 E2 [] (some b) hR2 hE2 hO2 .nil ⟨b, c, rfl, x2.le _ _ hb⟩ _ fun δ3 E3 D3 W3 ex x3 hE3 hO3 hD3 hex hR3 => ?_
          cases hX δ3 ex hex
          obtain ⟨W4, r1, r2⟩ := hend F δ3 W3 b c hR3 (x3.le _ _ (x2.le _ _ hb))
          exact hpost _ b _ W3 ⟨_, W4, r1, δ3, .bool false, x2.trans gA.next x3, by simp [dec], rfl, r2⟩
        cases x with
        | ext id => exact .inl (jump (.exit id) (.exit id) (fun δ ex h => h) (fun R b a w h => h) h7)
        | gt _ => cases h7
        | ret => exact .inl (jump .ret .ret (fun δ ex h => h) (fun R b a w h => h) h7)
        | pan v =>
          refine .inr ⟨v, h3', h7, gA.trans RB.1, fun F δ W vs b c hR hb hvs => round hR hb hvs fun δ2 E2 W2 x2 hE2 hO2 hR2 => ?_⟩
          refine RB.2 F δ2 W2 E2 [] (some b) hR2 hE2 hO2 .nil ⟨b, c, rfl, x2.le _ _ hb⟩ _ fun δ3 E3 D3 W3 ex x3 hE3 hO3 hD3 hex hR3 => ?_
          obtain ⟨y, hy, rfl⟩ := hex
          exact ⟨hD3.nil_inv, δ3, y, x2.trans gA.next x3, hy, rfl, hR3⟩
end
end Go.L.Ev
namespace Go.L.Ev
open Go Go.RowKit
variable [Ext]
set_option linter.unusedSimpArgs false
set_option linter.unusedVariables false
section
variable {P : Program} {ty : TyT} {fu : FuT}

/-! ### What is told -/
theorem ld_run {a : Addr} {x : Value} {W : World} {t : TypeId} (h : kLoad ⟨P, fun _ _ => False, false⟩ W t (.pointer (some a)) (fun v w => v = x ∧ w = W)) : (loadVar t a).run P W = .ok x W := by
  have h := h.of
  have h : kNext ⟨P, fun _ _ => False, false⟩ (fun v w => v = x ∧ w = W) (Sem.run P (do pure (.value (← Instr.loadAt t (.pointer (some a)))) : Sem Next) W) := h
  have e1 : Instr.loadAt t (.pointer (some a)) = loadVar t a := by
    simp [Instr.loadAt, Instr.sureAddr]
  rw [e1] at h
  simp only [Sem.run_bind] at h
  cases hr : (loadVar t a).run P W with
  | ok v w =>
    rw [hr] at h
    obtain ⟨rfl, rfl⟩ := h
    rfl
  | halt x w => rw [hr] at h; cases x <;> exact h.elim
def tellR : Go.L.RV → Sem Value
  | .val v => pure v
  | .cell a t => do loadVar t (← asAddr a)
inductive Tells (P : Program) (W : World) : List Go.L.RV → List Value → Prop where
  | nil : Tells P W [] []
  | cons {r : Go.L.RV} {x : Value} {rs : List Go.L.RV} {xs : List Value} (h : (tellR r).run P W = .ok x W) (t : Tells P W rs xs) : Tells P W (r :: rs) (x :: xs)
theorem Tells.len {W : World} {rs : List Go.L.RV} {xs : List Value} (h : Tells P W rs xs) : xs.length = rs.length := by
  induction h with
  | nil => rfl
  | cons _ _ ih => simp [ih]
theorem Tells.run {W : World} {rs : List Go.L.RV} {xs : List Value} (h : Tells P W rs xs) : (rs.mapM tellR : Sem (List Value)).run P W = .ok xs W := by
  induction h with
  | nil => simp
  | cons h _ ih => simp [List.mapM_cons, h, ih]
def tupV : List Value → Value
  | [x] => x
  | xs => .tuple xs.toArray
theorem res_run {W : World} {rs : List Go.L.RV} {xs : List Value} (h : Tells P W rs xs) : (resSem rs).run P W = .ok (tupV xs) W := by
  unfold resSem
  rw [Array.mapM_eq_mapM_toList, List.toList_toArray]
  have e2 : ∀ f : Go.L.RV → Sem Value, (∀ x, f x = tellR x) → (rs.mapM f : Sem (List Value)) = rs.mapM tellR := fun f hf => by rw [funext hf]
  rw [e2 _ (fun x => by cases x <;> rfl)]
  simp only [map_eq_pure_bind, Sem.run_bind, h.run, Result.andThen_ok, Sem.run_pure]
  match xs with
  | [] => rfl
  | [x] => rfl
  | x :: y :: xs => simp [tupV]
theorem retK_of {rs : List Go.L.RV} {R : Ending → World → Prop} {W : World} {v : Value} (h : (resSem rs).run P W = .ok v W) (hR : R (.returned v) W) : RetK P rs R W := by
  unfold RetK
  split
  · simp [resSem] at h; subst h; exact hR
  · simp [resSem] at h; subst h; exact hR
  · simp [resSem] at h; subst h; exact hR
  · simp [resSem] at h; subst h; exact hR
  · exact ⟨v, h, hR⟩
theorem tupK_inv {l : List RV} {κ : RV → Bool} (h : tupK l κ = true) : ∃ r, κ r = true ∧ ∀ δ xs, decL δ l = some xs → dec δ r = some (tupV xs) := by
  match l with
  | [] => exact ⟨_, h, fun δ xs hx => by rw [decL_nil] at hx; cases hx; simp [dec, decL, tupV]⟩
  | [a] =>
    refine ⟨a, h, fun δ xs hx => ?_⟩
    obtain ⟨x, y, h1, h2, rfl⟩ := decL_cons_inv hx
    rw [decL_nil] at h2; cases h2
    exact h1
  | a :: b :: l =>
    refine ⟨_, h, fun δ xs hx => ?_⟩
    obtain ⟨x, y, h1, h2, rfl⟩ := decL_cons_inv hx
    obtain ⟨x2, y2, h3, h4, rfl⟩ := decL_cons_inv h2
    simp only [dec, hx, tupV]
theorem outK_inv (p : Pg P ty fu) : ∀ (rs : List ResultVar) {e : VE} {κ : ((Hp → (List RV → Bool) → Bool) → Bool)}, outK ty rs e κ = true → ∃ g, κ g = true ∧ ∀ h q, g h q = true → ∃ l, q l = true ∧
    ∀ F δ W E, RelA F δ h W → EnvR δ e E → ∃ xs, decL δ l = some xs ∧ Tells P W (rs.map (rvOf E)) xs
  | [], e, κ, hk => ⟨_, hk, fun h q hq => ⟨[], hq, fun F δ W E _ _ => ⟨[], decL_nil, .nil⟩⟩⟩
  | .tmp t :: rs, e, κ, hk => by
    have hk : (e.getK undefR t fun v => outK ty rs e fun g => κ fun h q => g h fun l => q (v :: l)) = true := hk
    rw [getK_eq] at hk
    obtain ⟨g, h1, h2⟩ := outK_inv p rs hk
    refine ⟨_, h1, fun h q hq => ?_⟩
    obtain ⟨l, h3, h4⟩ := h2 h _ hq
    refine ⟨_, h3, fun F δ W E hR hE => ?_⟩
    obtain ⟨xs, h5, h6⟩ := h4 F δ W E hR hE
    exact ⟨_, decL_cons (hE t) h5, .cons (by simp [tellR, rvOf]) h6⟩
  | .cell a t :: rs, e, κ, hk => by
    have hk : (e.getK undefR a fun v => rvPtr v fun i off => outK ty rs e fun g => κ fun h q => ldAt ty t h i off fun v => g h fun l => q (v :: l)) = true := hk
    rw [getK_eq] at hk
    obtain ⟨i, off, hp, h0⟩ := rvPtr_inv hk
    obtain ⟨g, h1, h2⟩ := outK_inv p rs h0
    refine ⟨_, h1, fun h q hq => ?_⟩
    obtain ⟨r, h3, h4⟩ := ldAt_ok p hq
    obtain ⟨l, h5, h6⟩ := h2 h _ h3
    refine ⟨_, h5, fun F δ W E hR hE => ?_⟩
    obtain ⟨xs, h7, h8⟩ := h6 F δ W E hR hE
    have hEa : dec δ (Tr.get (.tup []) e a) = some (E a) := hE a
    rw [show Tr.get (.tup []) e a = .ptr i off from hp] at hEa
    simp only [dec, Option.map_eq_some_iff] at hEa
    obtain ⟨⟨b, c⟩, hb, hEa⟩ := hEa
    obtain ⟨x, hx, hl⟩ := h4 F δ W b c hR hb
    refine ⟨_, decL_cons hx h7, .cons ?_ h8⟩
    have := ld_run (hl ⟨P, fun _ _ => False, false⟩ (fun v w => v = x ∧ w = W) rfl ⟨rfl, rfl⟩)
    simp only [tellR, rvOf, ← hEa, asAddr, Sem.run_bind, Sem.run_pure, Result.andThen_ok]
    exact this
end
end Go.L.Ev
namespace Go.L.Ev
open Go Go.RowKit
variable [Ext]
set_option linter.unusedSimpArgs false
set_option linter.unusedVariables false
section
variable {P : Program} {ty : TyT} {fu : FuT}

/-! ### What is known of functions otherwise -/
/-- A function that recovers what it knows, keeps its number and calls what it was given. -/
structure CgtS (P : Program) (f : Nat) (t : TypeId) : Prop where
  enter : ∀ args w, (callFunc f args).run P w = .ok (.enter f args) w
  idle : ∀ (a b : Value) W, CallsD P f #[a, b] .returning W fun e u' w' => e = .returned (.tuple #[]) ∧ u' = .returning ∧ w' = W
  pan : ∀ (a : Addr) (x n : Int) (fc : FuncId) (caps : Array Value) (Rc : World → Prop) W, W.cell? a = some (.int .i64 x) → W.frozen? a = false → (∀ args w, (callFunc fc args).run P w = .ok (.enter fc args) w) →
    Calls P fc caps (W.setCell a (.int .i64 n)) (fun e w' => e = .returned (.tuple #[]) ∧ Rc w') →
    CallsD P f #[.pointer (some a), .func (.func fc) #[] caps] (.panicking [{ v := .iface t (.int .i64 n), recovered := false }]) W fun e u' w' =>
      e = .returned (.tuple #[]) ∧ u' = .panicking [{ v := .iface t (.int .i64 n), recovered := true }] ∧ Rc w'
structure CgtS1 (P : Program) (f : Nat) (t : TypeId) : Prop where
  enter : ∀ args w, (callFunc f args).run P w = .ok (.enter f args) w
  idle : ∀ (a : Value) W, CallsD P f #[a] .returning W fun e u' w' => e = .returned (.tuple #[]) ∧ u' = .returning ∧ w' = W
  pan : ∀ (a : Addr) (x n : Int) W, W.cell? a = some (.int .i64 x) → W.frozen? a = false →
    CallsD P f #[.pointer (some a)] (.panicking [{ v := .iface t (.int .i64 n), recovered := false }]) W fun e u' w' =>
      e = .returned (.tuple #[]) ∧ u' = .panicking [{ v := .iface t (.int .i64 n), recovered := true }] ∧ w' = W.setCell a (.int .i64 n)
structure OvS (P : Program) (ov : OvT) : Prop where
  orc : ∀ f o, (f, FE.orc o) ∈ ov → ∀ args h k, o args h k = true → ∃ r h', k r h' = true ∧ FnR P f args h r h'
  cgt : ∀ f t, (f, FE.cgt t) ∈ ov → CgtS P f t
  cg1 : ∀ f t, (f, FE.cg1 t) ∈ ov → CgtS1 P f t
theorem ovK_inv {f : Nat} {no : Bool} {κ : FE → Bool} : ∀ {ov : OvT}, ovK ov f no κ = true → no = true ∨ ∃ fe, (f, fe) ∈ ov ∧ κ fe = true
  | [], h => .inl h
  | (g, fe) :: ov, h => by
    have h : iff (Nat.beq g f) (κ fe) (ovK ov f no κ) = true := h
    rcases iff_inv h with ⟨e1, h1⟩ | ⟨_, h1⟩
    · exact .inr ⟨fe, by rw [Nat.eq_of_beq_eq_true e1]; exact List.mem_cons_self .., h1⟩
    · rcases ovK_inv h1 with h2 | ⟨fe', h2, h3⟩
      · exact .inl h2
      · exact .inr ⟨fe', List.mem_cons_of_mem _ h2, h3⟩
theorem ObR.thawed {F : Frm} {δ : Pl} {b c : Nat} {W : World} {ob : Ob} {cs : List RV} {mk : List RV → Ob} (hO : ObR F δ b c W ob) (hm : IsMk ob cs mk) {off : Nat} (hl : off < cs.length) : W.frozen? ⟨b, off, none⟩ = false := by
  rcases hm with ⟨t, rfl, rfl⟩ | ⟨e, sz, n, rfl, rfl⟩
  · obtain ⟨_, vs, rest, fr, hd, hh, hfr⟩ := hO
    have := hfr off (by rw [decL_len hd]; exact hl)
    simp only [World.frozen?, hh]
    simpa using this
  · obtain ⟨vs, cur, _, _, hh, _⟩ := row_cells hO
    simp only [World.frozen?, hh]
    simp
theorem IsMk.cs {ob : Ob} {cs : List RV} {mk : List RV → Ob} (h : IsMk ob cs mk) : ob.cs = some cs := by
  rcases h with ⟨t, rfl, _⟩ | ⟨e, sz, n, rfl, _⟩ <;> rfl
theorem cgtK_ok {call : CallT} (hc : CallS P call) {x : RV} {args : List RV} {h : Hp} {κ : Hp → Bool} (hk : cgtK call x args h κ = true) : ∃ h', κ h' = true ∧ Grow h h' ∧ ∃ n, x = .int .i64 n ∧
    ∀ F δ W vs, Rel F δ h W → decL δ args = some vs → ∃ a xo fc caps, vs = [.pointer (some a), .func (.func fc) #[] caps] ∧ W.cell? a = some (.int .i64 xo) ∧ W.frozen? a = false ∧ (∀ args w, (callFunc fc args).run P w = .ok (.enter fc args) w) ∧
      Calls P fc caps (W.setCell a (.int .i64 n)) (fun e w' => e = .returned (.tuple #[]) ∧ ∃ δ', Ex h δ δ' ∧ Rel F δ' h' w') := by
  obtain ⟨hl, h1⟩ := iff_t hk
  obtain ⟨p, hp, h2⟩ := nthK_inv h1
  obtain ⟨g, hg, h3⟩ := nthK_inv h2
  obtain ⟨i, off, rfl, h4⟩ := rvPtr_inv h3
  obtain ⟨kx, n, rfl, h5⟩ := rvInt_inv h4
  obtain ⟨e1, h6⟩ := iff_t h5
  cases ikEq_inv e1
  obtain ⟨fn, fst, caps, rfl, h7⟩ := rvFn_inv h6
  obtain ⟨e2, h8⟩ := iff_t h7
  have hfst : fst = [] := List.eq_nil_of_length_eq_zero (lenIs_inv e2)
  subst hfst
  obtain ⟨cs, mk, hmk, h9⟩ := obM_mk h8
  obtain ⟨old, hold, h10⟩ := nthK_inv h9
  obtain ⟨ko, xo, rfl, h11⟩ := rvInt_inv h10
  obtain ⟨e3, h12⟩ := iff_t h11
  cases ikEq_inv e3
  obtain ⟨hle, h13⟩ := spliceK_inv h12
  obtain ⟨hh1, h14, a1, a2, a3⟩ := setO_inv h13
  obtain ⟨fc, fst', caps', hfn, hcall⟩ := callF_inv hc h14
  cases hfn
  have hargs := two (lenIs_inv hl) hp hg
  subst hargs
  rcases hcall with ⟨r, h', h15, hgr, hcf, hF⟩ | ⟨r, h', h15, _⟩
  rotate_left
  · cases h15
  obtain ⟨l, rfl, h16⟩ := rvTup_inv h15
  obtain ⟨e4, h17⟩ := iff_t h16
  have hl0 : l = [] := List.eq_nil_of_length_eq_zero (lenIs_inv e4)
  subst hl0
  refine ⟨h', h17, (Grow.set hmk.ne a1 a3).trans hgr, n, rfl, fun F δ W vs hR hvs => ?_⟩
  obtain ⟨pv, l1, hpv, hl1, rfl⟩ := decL_cons_inv hvs
  obtain ⟨gv, l2, hgv, hl2, rfl⟩ := decL_cons_inv hl1
  rw [decL_nil] at hl2; cases hl2
  simp only [dec, Option.map_eq_some_iff] at hpv
  obtain ⟨⟨b, c⟩, hb, rfl⟩ := hpv
  obtain ⟨y, z, hy, hz, rfl⟩ := dec_fn hgv
  rw [decL_nil] at hy; cases hy
  obtain ⟨b', c', hb', hO⟩ := hR.own i hmk.ne
  rw [hb] at hb'; cases hb'
  have hlt : off < cs.length := (List.getElem?_eq_some_iff.1 hold).1
  obtain ⟨ws, hws, hrange⟩ := hO.cells hmk.cs
  obtain ⟨w1, hw1, hd1⟩ := decL_get hws hold
  rw [dec_int hd1] at hw1
  have hcell : W.cell? ⟨b, off, none⟩ = some (.int .i64 xo) := by have := hrange off _ hw1; simpa using this
  have hnew : decL δ [.int .i64 n] = some [.int .i64 n] := decL_cons (by simp only [dec]) decL_nil
  obtain ⟨r1, r2, r3⟩ := hO.storeE (P := P) hmk hle hnew (by simp [Value.oneCell'])
  refine ⟨⟨b, off, none⟩, xo, fc, z.toArray, rfl, hcell, hO.thawed hmk hlt, hcf, ?_⟩
  have hR1 : Rel F δ hh1 (W.setCells b off [.int .i64 n]) := hR.put hmk.ne hb r2 a1 a2 a3 r3
  have := hF F δ _ z hR1 (by simpa using hz)
  refine Calls.mono this ?_
  rintro en W' ⟨δ', y, q1, q2, rfl, q3⟩
  simp only [dec, decL, Option.some.injEq] at q2
  subst q2
  exact ⟨rfl, δ', (Ex.refl h δ).trans (Nat.le_refl _) ⟨q1.le, fun j hj => q1.old j (by omega)⟩, q3⟩

theorem cg1K_ok (P : Program) {x : RV} {args : List RV} {h : Hp} {κ : Hp → Bool} (hl : lenIs args 1 = true) (hk : cg1K x args h κ = true) : ∃ h', κ h' = true ∧ Grow h h' ∧ ∃ n, x = .int .i64 n ∧
    ∀ F δ W vs, Rel F δ h W → decL δ args = some vs → ∃ a xo, vs = [.pointer (some a)] ∧ W.cell? a = some (.int .i64 xo) ∧ W.frozen? a = false ∧ Rel F δ h' (W.setCell a (.int .i64 n)) := by
  obtain ⟨p, hp, h3⟩ := nthK_inv hk
  obtain ⟨i, off, rfl, h4⟩ := rvPtr_inv h3
  obtain ⟨kx, n, rfl, h5⟩ := rvInt_inv h4
  obtain ⟨e1, h8⟩ := iff_t h5
  cases ikEq_inv e1
  obtain ⟨cs, mk, hmk, h9⟩ := obM_mk h8
  obtain ⟨old, hold, h10⟩ := nthK_inv h9
  obtain ⟨ko, xo, rfl, h11⟩ := rvInt_inv h10
  obtain ⟨e3, h12⟩ := iff_t h11
  cases ikEq_inv e3
  obtain ⟨hle, h13⟩ := spliceK_inv h12
  obtain ⟨hh1, h14, a1, a2, a3⟩ := setO_inv h13
  have hargs : args = [.ptr i off] := by
    match args, lenIs_inv hl, hp with
    | [y], _, hp => simp at hp; rw [hp]
  subst hargs
  refine ⟨hh1, h14, Grow.set hmk.ne a1 a3, n, rfl, fun F δ W vs hR hvs => ?_⟩
  obtain ⟨pv, l1, hpv, hl1, rfl⟩ := decL_cons_inv hvs
  rw [decL_nil] at hl1; cases hl1
  simp only [dec, Option.map_eq_some_iff] at hpv
  obtain ⟨⟨b, c⟩, hb, rfl⟩ := hpv
  obtain ⟨b', c', hb', hO⟩ := hR.own i hmk.ne
  rw [hb] at hb'; cases hb'
  have hlt : off < cs.length := (List.getElem?_eq_some_iff.1 hold).1
  obtain ⟨ws, hws, hrange⟩ := hO.cells hmk.cs
  obtain ⟨w1, hw1, hd1⟩ := decL_get hws hold
  rw [dec_int hd1] at hw1
  have hcell : W.cell? ⟨b, off, none⟩ = some (.int .i64 xo) := by have := hrange off _ hw1; simpa using this
  have hnew : decL δ [.int .i64 n] = some [.int .i64 n] := decL_cons (by simp only [dec]) decL_nil
  obtain ⟨r1, r2, r3⟩ := hO.storeE (P := P) hmk hle hnew (by simp [Value.oneCell'])
  exact ⟨⟨b, off, none⟩, xo, rfl, hcell, hO.thawed hmk hlt, hR.put hmk.ne hb r2 a1 a2 a3 r3⟩

/-! ### Deferred calls -/
def MdR (δ : Pl) : Option RV → FrameMode → Prop
  | none, u => u = .returning
  | some v, u => ∃ y, dec δ v = some y ∧ u = .panicking [{ v := y, recovered := false }]
theorem MdR.mono {δ δ' : Pl} (k : Pl.le δ δ') {md : Option RV} {u : FrameMode} (h : MdR δ md u) : MdR δ' md u := by
  cases md with
  | none => exact h
  | some v => obtain ⟨y, h1, h2⟩ := h; exact ⟨y, dec_mono k _ _ h1, h2⟩
theorem isDf_inv {h : Hp} {i : Nat} (hk : isDf h i = true) : h.at i = .df := by
  unfold isDf at hk
  rw [getK_eq] at hk
  show Tr.get .no h.t i = .df
  cases ho : Tr.get .no h.t i <;> rw [ho] at hk <;> first | rfl | simp at hk
theorem Lv_col {rs : List Go.L.RV} {R : Ending → World → Prop} {ds : List Deferred} {u : FrameMode} {W : World} {D : Nat} (hu : u ≠ .run) (h1 : W.heap[D]? = some (.deferred (some []))) (h2 : Lv P rs R ds u (W.putObj D (.deferred none))) : Lv P rs R (markOf D :: ds) u W := by
  cases u with
  | run => exact absurd rfl hu
  | returning => exact ⟨h1, h2⟩
  | panicking _ => exact ⟨h1, h2⟩
theorem undo_ok {ov : OvT} (hov : OvS P ov) {call : CallT} (hc : CallS P call) : ∀ (d : Ds) (md : Option RV) (h : Hp) (κ : Option RV → Hp → Bool), undo ov call d md h κ = true → ∃ md' h', κ md' h' = true ∧ Grow h h' ∧
    ∀ F δ W Dl u rs R, Rel F δ h W → DsR δ d Dl → MdR δ md u → (∀ δ' W' u', Ex h δ δ' → Rel F δ' h' W' → MdR δ' md' u' → Lv P rs R [] u' W') → Lv P rs R Dl u W
  | [], md, h, κ, hk => ⟨md, h, hk, Grow.refl h, fun F δ W Dl u rs R hR hD hm hL => by
      cases hD
      exact hL δ W u (Ex.refl _ _) hR hm⟩
  | .mk D :: d, md, h, κ, hk => by
    have hk : iff (isDf h D) (setO D .no h fun h => undo ov call d md h κ) false = true := hk
    obtain ⟨e1, h1⟩ := iff_t hk
    have hat := isDf_inv e1
    obtain ⟨h2, h3, a1, a2, a3⟩ := setO_inv h1
    obtain ⟨md', h', h4, hg, hL⟩ := undo_ok hov hc d md h2 κ h3
    have g2 : Grow h h2 := Grow.set (by rw [hat]; simp) a1 a3
    refine ⟨md', h', h4, g2.trans hg, fun F δ W Dl u rs R hR hD hm hLv => ?_⟩
    cases hD with
    | cons hv hd =>
      obtain ⟨b, c, hb, rfl⟩ := hv
      obtain ⟨b', c', hb', hO⟩ := hR.get hat (by simp)
      rw [hb] at hb'; cases hb'
      have hu : u ≠ .run := by
        cases md with
        | none => cases hm; simp
        | some v => obtain ⟨y, _, rfl⟩ := hm; simp
      refine Lv_col hu hO.2 ?_
      exact hL F δ _ _ u rs R (hR.gone (by rw [hat]; simp) hb (grown_putObj W b _) a1 a2 a3) hd hm fun δ' W' u' x => hLv δ' W' u' ((Ex.refl h δ).trans (Nat.le_refl _) ⟨x.le, fun j hj => x.old j (by omega)⟩)
  | .fn f args :: d, md, h, κ, hk => by
    have hk : (ovK ov f false fun fe => @FE.rec (fun _ => Bool) (fun _ => false) (fun t => iff (lenIs args 2) (@Option.rec RV (fun _ => Bool) (undo ov call d none h κ) (fun v => rvIfc v fun u x => iff (Nat.beq u t) (cgtK call x args h fun h => undo ov call d none h κ) false) md) false) (fun t => iff (lenIs args 1) (@Option.rec RV (fun _ => Bool) (undo ov call d none h κ) (fun v => rvIfc v fun u x => iff (Nat.beq u t) (cg1K x args h fun h => undo ov call d none h κ) false) md) false) fe) = true := hk
    rcases ovK_inv hk with h1 | ⟨fe, hfe, h1⟩
    · cases h1
    cases fe with
    | orc _ => cases h1
    | cgt t =>
      obtain ⟨hl, h2⟩ := iff_t (b := lenIs args 2) h1
      have hS := hov.cgt f t hfe
      cases md with
      | none =>
        obtain ⟨md', h', h4, hg, hL⟩ := undo_ok hov hc d none h κ h2
        refine ⟨md', h', h4, hg, fun F δ W Dl u rs R hR hD hm hLv => ?_⟩
        cases hD with
        | cons hv hd =>
          obtain ⟨vs, hvs, rfl⟩ := hv
          cases hm
          have hl2 : vs.length = 2 := by rw [decL_len hvs]; exact lenIs_inv hl
          obtain ⟨x, y, rfl⟩ : ∃ x y, vs = [x, y] := by
            match vs, hl2 with
            | [x, y], _ => exact ⟨x, y, rfl⟩
          refine ⟨rfl, hS.enter, (hS.idle x y W).mono ?_⟩
          rintro e u' w' ⟨rfl, rfl, rfl⟩
          exact hL F δ _ _ .returning rs R hR hd rfl hLv
      | some v =>
        obtain ⟨u0, x, rfl, h3⟩ := rvIfc_inv h2
        obtain ⟨e2, h4⟩ := iff_t h3
        cases Nat.eq_of_beq_eq_true e2
        obtain ⟨h5, h6, hg5, n, rfl, hF⟩ := cgtK_ok hc h4
        obtain ⟨md', h', h7, hg, hL⟩ := undo_ok hov hc d none h5 κ h6
        refine ⟨md', h', h7, hg5.trans hg, fun F δ W Dl u rs R hR hD hm hLv => ?_⟩
        cases hD with
        | cons hv hd =>
          obtain ⟨vs, hvs, rfl⟩ := hv
          obtain ⟨y, hy, rfl⟩ := hm
          obtain ⟨y', hy', rfl⟩ := dec_ifc hy
          cases dec_int hy'
          obtain ⟨a, xo, fc, caps, rfl, c1, c2, c3, c4⟩ := hF F δ W vs hR hvs
          refine ⟨rfl, hS.enter, (hS.pan a xo n fc caps _ W c1 c2 c3 c4).mono ?_⟩
          rintro e u' w' ⟨rfl, rfl, δ', x', hR'⟩
          exact hL F δ' _ _ .returning rs R hR' (hd.mono x'.le) rfl fun δ2 W2 u2 x2 => hLv δ2 W2 u2 (x'.trans hg5.next x2)
    | cg1 t =>
      obtain ⟨hl, h2⟩ := iff_t (b := lenIs args 1) h1
      have hS := hov.cg1 f t hfe
      cases md with
      | none =>
        obtain ⟨md', h', h4, hg, hL⟩ := undo_ok hov hc d none h κ h2
        refine ⟨md', h', h4, hg, fun F δ W Dl u rs R hR hD hm hLv => ?_⟩
        cases hD with
        | cons hv hd =>
          obtain ⟨vs, hvs, rfl⟩ := hv
          cases hm
          have hl2 : vs.length = 1 := by rw [decL_len hvs]; exact lenIs_inv hl
          obtain ⟨x, rfl⟩ : ∃ x, vs = [x] := by
            match vs, hl2 with
            | [x], _ => exact ⟨x, rfl⟩
          refine ⟨rfl, hS.enter, (hS.idle x W).mono ?_⟩
          rintro e u' w' ⟨rfl, rfl, rfl⟩
          exact hL F δ _ _ .returning rs R hR hd rfl hLv
      | some v =>
        obtain ⟨u0, x, rfl, h3⟩ := rvIfc_inv h2
        obtain ⟨e2, h4⟩ := iff_t h3
        cases Nat.eq_of_beq_eq_true e2
        obtain ⟨h5, h6, hg5, n, rfl, hF⟩ := cg1K_ok P hl h4
        obtain ⟨md', h', h7, hg, hL⟩ := undo_ok hov hc d none h5 κ h6
        refine ⟨md', h', h7, hg5.trans hg, fun F δ W Dl u rs R hR hD hm hLv => ?_⟩
        cases hD with
        | cons hv hd =>
          obtain ⟨vs, hvs, rfl⟩ := hv
          obtain ⟨y, hy, rfl⟩ := hm
          obtain ⟨y', hy', rfl⟩ := dec_ifc hy
          cases dec_int hy'
          obtain ⟨a, xo, rfl, c1, c2, hR'⟩ := hF F δ W vs hR hvs
          refine ⟨rfl, hS.enter, (hS.pan a xo n W c1 c2).mono ?_⟩
          rintro e u' w' ⟨rfl, rfl, rfl⟩
          exact hL F δ _ _ .returning rs R hR' hd rfl fun δ2 W2 u2 x2 => hLv δ2 W2 u2 ((Ex.refl h δ).trans hg5.next x2)
end
end Go.L.Ev
namespace Go.L.Ev
open Go Go.RowKit
variable [Ext]
set_option linter.unusedSimpArgs false
set_option linter.unusedVariables false
section
variable {P : Program} {ty : TyT} {fu : FuT}

/-- How a function is left. -/
theorem leave_ok (p : Pg P ty fu) {ov : OvT} (hov : OvS P ov) {call : CallT} (hc : CallS P call) {fn : Func} {md : Option RV} {e : VE} {d : Ds} {h : Hp} {k : K} {kp : KP} (hk : leave ty ov call fn md e d h k kp = true) :
    (∃ r h', k r h' = true ∧ Grow h h' ∧ ∀ F δ W E Dl u R, Rel F δ h W → EnvR δ e E → DsR δ d Dl → MdR δ md u → (∀ δ' x W', Ex h δ δ' → dec δ' r = some x → Rel F δ' h' W' → R (.returned x) W') → Lv P (fn.results.toList.map (rvOf E)) R Dl u W) ∨
    (∃ r h', kp r h' = true ∧ Grow h h' ∧ ∀ F δ W E Dl u R, Rel F δ h W → EnvR δ e E → DsR δ d Dl → MdR δ md u → (∀ δ' x W', Ex h δ δ' → dec δ' r = some x → Rel F δ' h' W' → R (.panicked [{ v := x, recovered := false }]) W') → Lv P (fn.results.toList.map (rvOf E)) R Dl u W) := by
  obtain ⟨g, h1, hg⟩ := outK_inv p _ hk
  obtain ⟨md', h', h2, hgr, hL⟩ := undo_ok hov hc d md h _ h1
  cases md' with
  | none =>
    obtain ⟨l, h3, hl⟩ := hg h' _ h2
    obtain ⟨r, h4, hr⟩ := tupK_inv h3
    refine .inl ⟨r, h', h4, hgr, fun F δ W E Dl u R hR hE hD hm hk => hL F δ W Dl u _ R hR hD hm fun δ' W' u' x hR' hm' => ?_⟩
    cases hm'
    obtain ⟨xs, h5, h6⟩ := hl F δ' W' E hR'.toRelA (hE.mono x.le)
    exact retK_of (res_run h6) (hk δ' _ W' x (hr δ' xs h5) hR')
  | some v =>
    refine .inr ⟨v, h', h2, hgr, fun F δ W E Dl u R hR hE hD hm hk => hL F δ W Dl u _ R hR hD hm fun δ' W' u' x hR' hm' => ?_⟩
    obtain ⟨y, hy, rfl⟩ := hm'
    exact hk δ' y W' x hy hR'
theorem setArgs_inv : ∀ {l : List RV} {i : Nat} {e : VE} {κ : VE → Bool}, setArgs l i e κ = true → ∃ e', κ e' = true ∧ ∀ t, e'.at t = if i ≤ t ∧ t < i + l.length then l.getD (t - i) undefR else e.at t
  | [], i, e, κ, h => ⟨e, h, fun t => by
      have : ¬ (i ≤ t ∧ t < i + ([] : List RV).length) := by simp
      rw [if_neg this]⟩
  | v :: l, i, e, κ, h => by
    obtain ⟨e1, h1, a1, a2⟩ := Tr.set_inv (.tup []) _ _ _ _ (show Tr.set v e i (fun e' => setArgs l (i + 1) e' κ) = true from h)
    obtain ⟨e', h2, h3⟩ := setArgs_inv h1
    refine ⟨e', h2, fun t => ?_⟩
    rw [h3 t]
    by_cases ht : t = i
    · subst ht
      rw [if_neg (by omega), if_pos (by simp)]
      show Tr.get (.tup []) e1 t = _
      rw [a1]; simp
    · by_cases hin : i + 1 ≤ t ∧ t < i + 1 + l.length
      · rw [if_pos hin, if_pos (by simp only [List.length_cons]; omega)]
        rw [show t - i = (t - (i + 1)) + 1 by omega]
        simp
      · rw [if_neg hin, if_neg (by simp only [List.length_cons]; omega)]
        exact a2 t ht
theorem exRet_inv {x : EX} {a : Bool} {b : RV → Bool} (h : exRet x a b = true) : (x = .ret ∧ a = true) ∨ ∃ v, x = .pan v ∧ b v = true := by
  cases x with
  | ret => exact .inl ⟨rfl, h⟩
  | pan v => exact .inr ⟨v, rfl, h⟩
  | _ => exact absurd (show false = true from h) (by decide)
/-- Which slot tells it. -/
def slotOf : ResultVar → Tmp
  | .tmp t => t
  | .cell a _ => a
theorem resNd_inv : ∀ {rs : List ResultVar} {e : VE} {a : Bool}, resNd rs e a = true → a = true ∧ ∀ r ∈ rs, e.at (slotOf r) ≠ .skp
  | [], e, a, h => ⟨h, fun r hr => by cases hr⟩
  | r :: rs, e, a, h => by
    have key : ∀ t, (e.getK undefR t fun v => iff (isCon 19 v) false (resNd rs e a)) = true → a = true ∧ e.at t ≠ .skp ∧ ∀ r ∈ rs, e.at (slotOf r) ≠ .skp := fun t h => by
      rw [getK_eq] at h
      obtain ⟨h1, h2⟩ := iff_f h
      obtain ⟨h3, h4⟩ := resNd_inv h2
      refine ⟨h3, fun h5 => ?_, h4⟩
      have h5 : Tr.get undefR e t = .skp := h5
      rw [h5] at h1
      exact absurd h1 (by decide)
    have fin : ∀ t, slotOf r = t → (a = true ∧ e.at t ≠ .skp ∧ ∀ r ∈ rs, e.at (slotOf r) ≠ .skp) → a = true ∧ ∀ r' ∈ r :: rs, e.at (slotOf r') ≠ .skp := fun t ht ⟨h1, h2, h3⟩ => ⟨h1, fun r' hr' => by
      rcases List.mem_cons.1 hr' with rfl | hr'
      · rw [ht]; exact h2
      · exact h3 r' hr'⟩
    cases r with
    | tmp t => exact fin t rfl (key t h)
    | cell t ty => exact fin t rfl (key t h)
theorem runFn_ok (p : Pg P ty fu) {ov : OvT} (hov : OvS P ov) {call : CallT} (hc : CallS P call) {m f : Nat} {args : List RV} {h : Hp} {k : K} {kp : KP} (hk : runFn ty fu ov call m f args h k kp = true) :
    (∃ r h', k r h' = true ∧ FnR P f args h r h') ∨ ∃ r h', kp r h' = true ∧ FnP P f args h r h' := by
  unfold runFn at hk
  rw [getK_eq] at hk
  cases hfu : Tr.get none fu f with
  | none => rw [hfu] at hk; cases hk
  | some fn =>
    rw [hfu] at hk
    have hP := p.fuOk f fn hfu
    cases hb : fn.body with
    | none => simp only [hb] at hk; cases hk
    | some c =>
      simp only [hb] at hk
      rw [lenK_eq, natF_eq] at hk
      unfold layers at hk
      rw [natF_eq] at hk
      obtain ⟨e0, h1, he0⟩ := setArgs_inv hk
      have hcf : ∀ args w, (callFunc f args).run P w = .ok (.enter f args) w := fun args w => by
        have hn := p.nmOk f fn hP
        simp only [callFunc, Sem.run_bind, run_program, Result.andThen_ok, hP, hn, hb]
        simp
      have envR : ∀ δ vs, decL δ args = some vs → EnvR δ e0 (fun t => vs.getD t undef) := fun δ vs hvs t => by
        rw [he0 t]
        by_cases ht : t < args.length
        · rw [if_pos ⟨Nat.zero_le _, by omega⟩, Nat.sub_zero]
          obtain ⟨v, hv⟩ : ∃ v, args[t]? = some v := ⟨_, List.getElem?_eq_getElem ht⟩
          obtain ⟨x, hx, hd⟩ := decL_get hvs hv
          show dec δ (args.getD t undefR) = some (vs.getD t undef)
          simp only [List.getD_eq_getElem?_getD, hv, hx, Option.getD_some]
          exact hd
        · rw [if_neg (by omega)]
          have h2 : vs[t]? = none := List.getElem?_eq_none (by rw [decL_len hvs]; omega)
          have h2' : vs.getD t undef = undef := by rw [List.getD_eq_getElem?_getD, h2]; rfl
          show _ = some (vs.getD t undef)
          rw [h2']
          have : VE.at (Tr.full undefR (Nat.succ (Nat.succ (Nat.log2 (Nat.max fn.ntmps args.length))))) t = undefR := Tr.full_get undefR _ t
          rw [this]
          simp [dec, decL, undef]
      have hn : ∀ δ vs, decL δ args = some vs → Nat.max fn.ntmps args.length = max fn.ntmps vs.length := fun δ vs hvs => by rw [decL_len hvs]
      -- a walk of the body
      have calls : ∀ {X : Option EX} {e1 : VE} {d1 : Ds} {h1' : Hp}, Res (Nat.max fn.ntmps args.length) none (fun b Q => wpM P b c Q) e0 [] h X e1 d1 h1' → ∀ {F δ W vs} {R : Ending → World → Prop}, Rel F δ h W → decL δ args = some vs →
          (∀ δ' E' D' W' ex, Ex h δ δ' → EnvX δ' X e1 E' → DsR δ' d1 D' → exR δ' X ex → Rel F δ' h1' W' → Go.L.finish P fn R ex E' D' W') → Calls P f vs.toArray W R := by
        intro X e1 d1 h1' RB F δ W vs R hR hvs hfin
        refine calls_of_wpM hP hb ?_
        have hN := hn δ vs hvs
        rw [← hN]
        refine RB.2 F δ W _ [] none hR (envR δ vs hvs) (by rw [hN]; exact args_ok fn.ntmps vs) .nil rfl _ fun δ' E' D' W' ex x hE' hO' hD' hex hR' => ?_
        rw [toQ_act hO']
        exact hfin δ' E' D' W' ex x hE' hD' hex hR'
      have envN : ∀ {X : Option EX} {e1 : VE} {δ : Pl} {E : Env}, (∀ v, X = some (.pan v) → ∀ r ∈ fn.results.toList, e1.at (slotOf r) ≠ .skp) → EnvX δ X e1 E → ∃ E1, EnvR δ e1 E1 ∧ fn.results.toList.map (rvOf E1) = fn.results.toList.map (rvOf E) := by
        rintro X e1 δ E h1 (h2 | ⟨⟨v, h3⟩, h4⟩)
        · exact ⟨E, h2, rfl⟩
        · refine ⟨fun t => @ite _ (e1.at t = .skp) (Classical.propDecidable _) undef (E t), fun t => ?_, List.map_congr_left fun r hr => ?_⟩
          · by_cases h6 : e1.at t = .skp
            · show dec δ (e1.at t) = some (@ite _ (e1.at t = .skp) (Classical.propDecidable _) undef (E t))
              rw [if_pos h6, h6]; simp [dec]
            · show dec δ (e1.at t) = some (@ite _ (e1.at t = .skp) (Classical.propDecidable _) undef (E t))
              rw [if_neg h6]; exact (h4 t).resolve_left h6
          · have h5 := h1 v h3 r hr
            cases r with
            | tmp t =>
              have h5 : e1.at t ≠ .skp := h5
              simp only [rvOf, if_neg h5]
            | cell t ty =>
              have h5 : e1.at t ≠ .skp := h5
              simp only [rvOf, if_neg h5]
      have out : ∀ {X : Option EX} {e1 : VE} {d1 : Ds} {h1' : Hp} (md : Option RV) (hXe : ∀ v, X = some (.pan v) → ∀ r ∈ fn.results.toList, e1.at (slotOf r) ≠ .skp), Res (Nat.max fn.ntmps args.length) none (fun b Q => wpM P b c Q) e0 [] h X e1 d1 h1' → leave ty ov call fn md e1 d1 h1' k kp = true →
          (∀ δ ex, exR δ X ex → ∃ u, MdR δ md u ∧ ∀ R E D W, Lv P (fn.results.toList.map (rvOf E)) R D u W → Go.L.finish P fn R ex E D W) → (∃ r h', k r h' = true ∧ FnR P f args h r h') ∨ ∃ r h', kp r h' = true ∧ FnP P f args h r h' := by
        intro X e1 d1 h1' md hXe RB hl hX
        rcases leave_ok p hov hc hl with ⟨r, h2, h3, hg, hL⟩ | ⟨r, h2, h3, hg, hL⟩
        · refine .inl ⟨r, h2, h3, RB.1.trans hg, hcf, fun F δ W vs hR hvs => calls RB hR hvs fun δ' E' D' W' ex x hE' hD' hex hR' => ?_⟩
          obtain ⟨u, hu, hfin⟩ := hX δ' ex hex
          obtain ⟨E1, hE1, hmap⟩ := envN hXe hE'
          refine hfin _ _ _ _ ?_
          rw [← hmap]
          refine (hL F δ' W' E1 D' u _ hR' hE1 hD' hu fun δ2 y W2 x2 hy hR2 => ?_)
          exact ⟨δ2, y, x.trans RB.1.next x2, hy, rfl, hR2⟩
        · refine .inr ⟨r, h2, h3, RB.1.trans hg, hcf, fun F δ W vs hR hvs => calls RB hR hvs fun δ' E' D' W' ex x hE' hD' hex hR' => ?_⟩
          obtain ⟨u, hu, hfin⟩ := hX δ' ex hex
          obtain ⟨E1, hE1, hmap⟩ := envN hXe hE'
          refine hfin _ _ _ _ ?_
          rw [← hmap]
          refine (hL F δ' W' E1 D' u _ hR' hE1 hD' hu fun δ2 y W2 x2 hy hR2 => ?_)
          exact ⟨δ2, y, x.trans RB.1.next x2, hy, rfl, hR2⟩
      rcases evC_ok p hc c none e0 [] h _ _ h1 with ⟨e1, d1, h1', h2, RB⟩ | ⟨x, e1, d1, h1', h2, RB⟩
      · exact out none (fun v h => by cases h) RB h2 fun δ ex hex => ⟨.returning, rfl, fun R E D W h => by cases hex; exact h⟩
      · rcases exRet_inv h2 with ⟨rfl, h3⟩ | ⟨v, rfl, h3⟩
        · exact out none (fun v h => by cases h) RB h3 fun δ ex hex => ⟨.returning, rfl, fun R E D W h => by cases hex; exact h⟩
        · cases d1 with
          | nil =>
            refine .inr ⟨v, h1', h3, RB.1, hcf, fun F δ W vs hR hvs => calls RB hR hvs fun δ' E' D' W' ex x hE' hD' hex hR' => ?_⟩
            obtain ⟨y, hy, rfl⟩ := hex
            cases hD'
            exact ⟨δ', y, x, hy, rfl, hR'⟩
          | cons dv d1 =>
            have h3 : resNd fn.results.toList e1 (leave ty ov call fn (some v) e1 (dv :: d1) h1' k kp) = true := h3
            obtain ⟨h3, hnl⟩ := resNd_inv h3
            refine out (some v) (fun _ _ => hnl) RB h3 fun δ ex hex => ?_
            obtain ⟨y, hy, rfl⟩ := hex
            exact ⟨_, ⟨y, hy, rfl⟩, fun R E D W h => h⟩
/-- **THE EVALUATION IS SOUND.** -/
theorem run_ok (p : Pg P ty fu) {ov : OvT} (hov : OvS P ov) : ∀ m : Nat, CallS P (run ty fu ov m)
  | 0 => ⟨fun f args h k kp hk => (by cases hk), fun l args h k kp hk => (by cases hk)⟩
  | m + 1 => by
    have ih := run_ok p hov m
    refine ⟨fun f args h k kp hk => ?_, fun l args h k kp hk => ?_⟩
    · have hk : ovK ov f (runFn ty fu ov (run ty fu ov m) m f args h k kp) (fun fe => @FE.rec (fun _ => Bool) (fun o => o args h k) (fun _ => false) (fun _ => false) fe) = true := hk
      rcases ovK_inv hk with h1 | ⟨fe, hfe, h1⟩
      · exact runFn_ok p hov ih h1
      · cases fe with
        | orc o =>
          obtain ⟨r, h', h2, h3⟩ := hov.orc f o hfe args h k h1
          exact .inl ⟨r, h', h2, h3⟩
        | cgt t => cases h1
        | cg1 t => cases h1
    · exact runY_ok p ih (show runY ty (run ty fu ov m) m l args h k kp = true from hk)
end
end Go.L.Ev
namespace Go.L.Ev
open Go Go.RowKit
variable [Ext]
set_option linter.unusedSimpArgs false
set_option linter.unusedVariables false

/-! ### Calls whose answer was evaluated on its own -/
/-- Things of a heap that are told again: cells, rows, maps. -/
noncomputable def enEq (a b : RV × RV × Nat) : Bool := iff (rvEq a.1 b.1) (iff (rvEq a.2.1 b.2.1) (Nat.beq a.2.2 b.2.2) false) false
noncomputable def ensEq (l : List (RV × RV × Nat)) : List (RV × RV × Nat) → Bool :=
  @List.rec (RV × RV × Nat) (fun _ => List (RV × RV × Nat) → Bool) (fun m => @List.rec (RV × RV × Nat) (fun _ => Bool) true (fun _ _ _ => false) m)
    (fun a _ ih m => @List.rec (RV × RV × Nat) (fun _ => Bool) false (fun b m _ => iff (enEq a b) (ih m) false) m) l
noncomputable def obEq (x : Ob) : Ob → Bool :=
  @Ob.rec (fun _ => Ob → Bool) (fun _ => false)
    (fun t cs y => @Ob.rec (fun _ => Bool) false (fun t' cs' => iff (Nat.beq t t') (rvEqL cs cs') false) (fun _ _ _ _ => false) (fun _ _ => false) (fun _ _ _ => false) (fun _ _ _ _ => false) false (fun _ _ _ _ _ _ _ _ => false) y)
    (fun e sz n cs y => @Ob.rec (fun _ => Bool) false (fun _ _ => false) (fun e' sz' n' cs' => iff (Nat.beq e e') (iff (Nat.beq sz sz') (iff (Nat.beq n n') (rvEqL cs cs') false) false) false) (fun _ _ => false) (fun _ _ _ => false) (fun _ _ _ _ => false) false (fun _ _ _ _ _ _ _ _ => false) y)
    (fun c es y => @Ob.rec (fun _ => Bool) false (fun _ _ => false) (fun _ _ _ _ => false) (fun c' es' => iff (Nat.beq c c') (ensEq es es') false) (fun _ _ _ => false) (fun _ _ _ _ => false) false (fun _ _ _ _ _ _ _ _ => false) y)
    (fun _ _ _ _ => false) (fun _ _ _ _ _ => false) (fun _ => false) (fun _ _ _ _ _ _ _ _ _ => false) x
theorem enEq_inv {a b : RV × RV × Nat} (h : enEq a b = true) : a = b := by
  obtain ⟨h1, h2⟩ := iff_t h
  obtain ⟨h3, h4⟩ := iff_t h2
  obtain ⟨a1, a2, a3⟩ := a
  obtain ⟨b1, b2, b3⟩ := b
  have e1 := rvEq_inv _ _ h1
  have e2 := rvEq_inv _ _ h3
  have e3 := Nat.eq_of_beq_eq_true h4
  simp only at e1 e2 e3
  rw [e1, e2, e3]
theorem ensEq_inv : ∀ {l m : List (RV × RV × Nat)}, ensEq l m = true → l = m
  | [], [], _ => rfl
  | [], _ :: _, h => absurd (show false = true from h) (by decide)
  | _ :: _, [], h => absurd (show false = true from h) (by decide)
  | a :: l, b :: m, h => by
    obtain ⟨h1, h2⟩ := iff_t (show iff (enEq a b) (ensEq l m) false = true from h)
    rw [enEq_inv h1, ensEq_inv h2]
theorem obEq_inv {x y : Ob} (h : obEq x y = true) : x = y ∧ x ≠ .no := by
  cases x with
  | bx t cs =>
    cases y with
    | bx t' cs' =>
      obtain ⟨h1, h2⟩ := iff_t (show iff (Nat.beq t t') (rvEqL cs cs') false = true from h)
      exact ⟨by rw [Nat.eq_of_beq_eq_true h1, rvEqL_inv _ _ h2], by simp⟩
    | _ => exact absurd (show false = true from h) (by decide)
  | row e sz n cs =>
    cases y with
    | row e' sz' n' cs' =>
      obtain ⟨h1, h2⟩ := iff_t (show iff (Nat.beq e e') (iff (Nat.beq sz sz') (iff (Nat.beq n n') (rvEqL cs cs') false) false) false = true from h)
      obtain ⟨h3, h4⟩ := iff_t h2
      obtain ⟨h5, h6⟩ := iff_t h4
      exact ⟨by rw [Nat.eq_of_beq_eq_true h1, Nat.eq_of_beq_eq_true h3, Nat.eq_of_beq_eq_true h5, rvEqL_inv _ _ h6], by simp⟩
    | _ => exact absurd (show false = true from h) (by decide)
  | mp c es =>
    cases y with
    | mp c' es' =>
      obtain ⟨h1, h2⟩ := iff_t (show iff (Nat.beq c c') (ensEq es es') false = true from h)
      exact ⟨by rw [Nat.eq_of_beq_eq_true h1, ensEq_inv h2], by simp⟩
    | _ => exact absurd (show false = true from h) (by decide)
  | _ => exact absurd (show false = true from h) (by decide)

abbrev ObL := List (Nat × Ob)
def lkO : ObL → Nat → Option Ob
  | [], _ => none
  | p :: l, i => match lkO l i with
    | some o => some o
    | none => if p.1 = i then some p.2 else none
theorem lkO_mem : ∀ {l : ObL} {i : Nat} {o : Ob}, lkO l i = some o → (i, o) ∈ l
  | p :: l, i, o, h => by
    simp only [lkO] at h
    cases hl : lkO l i with
    | some o' => rw [hl] at h; cases h; exact List.mem_cons_of_mem _ (lkO_mem hl)
    | none =>
      rw [hl] at h
      by_cases hp : p.1 = i
      · rw [if_pos hp] at h; cases h; subst hp; exact List.mem_cons_self ..
      · rw [if_neg hp] at h; cases h
theorem lkO_some : ∀ {l : ObL} {i : Nat}, (∃ o, (i, o) ∈ l) → ∃ o, lkO l i = some o
  | p :: l, i, ⟨o, h⟩ => by
    simp only [lkO]
    cases hl : lkO l i with
    | some o' => exact ⟨o', rfl⟩
    | none =>
      rcases List.mem_cons.1 h with rfl | h1
      · exact ⟨_, if_pos rfl⟩
      · obtain ⟨o', h2⟩ := lkO_some ⟨o, h1⟩
        rw [hl] at h2; cases h2
noncomputable def setsK (l : ObL) : Hp → (Hp → Bool) → Bool := @List.rec (Nat × Ob) (fun _ => Hp → (Hp → Bool) → Bool) (fun h κ => κ h) (fun p _ ih h κ => setO p.1 p.2 h fun h => ih h κ) l
theorem setsK_inv : ∀ {l : ObL} {h : Hp} {κ : Hp → Bool}, setsK l h κ = true → ∃ h', κ h' = true ∧ h'.next = h.next ∧ ∀ i, h'.at i = (lkO l i).getD (h.at i)
  | [], h, κ, hk => ⟨h, hk, rfl, fun _ => rfl⟩
  | p :: l, h, κ, hk => by
    obtain ⟨h1, h2, a1, a2, a3⟩ := setO_inv (show setO p.1 p.2 h (fun h => setsK l h κ) = true from hk)
    obtain ⟨h', h3, b1, b2⟩ := setsK_inv h2
    refine ⟨h', h3, by rw [b1, a1], fun i => ?_⟩
    rw [b2 i]
    simp only [lkO]
    cases hl : lkO l i with
    | some o => rfl
    | none =>
      by_cases hp : p.1 = i
      · subst hp; rw [if_pos rfl]; simp [a2]
      · rw [if_neg hp]; exact a3 i (fun e => hp e.symm)
/-- Every one of these stands so. -/
noncomputable def allK (h : Hp) (l : ObL) (κ : Bool) : Bool := @List.rec (Nat × Ob) (fun _ => Bool) κ (fun p _ ih => h.t.getK .no p.1 fun o => iff (obEq p.2 o) ih false) l
theorem allK_inv {h : Hp} : ∀ {l : ObL} {κ : Bool}, allK h l κ = true → κ = true ∧ ∀ p ∈ l, h.at p.1 = p.2 ∧ p.2 ≠ .no
  | [], κ, hk => ⟨hk, fun _ hp => by cases hp⟩
  | p :: l, κ, hk => by
    have hk : (h.t.getK .no p.1 fun o => iff (obEq p.2 o) (allK h l κ) false) = true := hk
    rw [getK_eq] at hk
    obtain ⟨h1, h2⟩ := iff_t hk
    obtain ⟨h3, h4⟩ := allK_inv h2
    obtain ⟨e, en⟩ := obEq_inv h1
    refine ⟨h3, fun q hq => ?_⟩
    rcases List.mem_cons.1 hq with rfl | hq
    · exact ⟨e.symm, en⟩
    · exact h4 q hq

/-- A tree with room. -/
noncomputable def Tr.pad {α : Type} (z : α) (t : Tr α) : Nat → Tr α := @Tr.rec α (fun _ => Nat → Tr α) (fun L => Tr.full z L) (fun _ v _ pl pr L => .nd (pl (Nat.sub L 1)) v (pr (Nat.sub L 1))) t
theorem Tr.pad_get {α : Type} (z : α) (t : Tr α) : ∀ (L i : Nat), (t.pad z L).get z i = t.get z i := by
  induction t with
  | lf => exact fun L i => Tr.full_get z L i
  | nd l v r ihl ihr =>
    intro L i
    show (Tr.nd (l.pad z (Nat.sub L 1)) v (r.pad z (Nat.sub L 1))).get z i = _
    rw [Tr.get_nd, Tr.get_nd]
    cases i with
    | zero => rfl
    | succ m => simp only [ihl, ihr]
noncomputable def Hp.pad (t : Tr Ob) (n : Nat) : Hp := ⟨n, Tr.pad .no t (Nat.succ (Nat.log2 n))⟩
theorem Hp.pad_at (t : Tr Ob) (n i : Nat) : (Hp.pad t n).at i = Tr.get .no t i := Tr.pad_get _ _ _ _

/-- One call: what it is given, what it finds, what it answers, what stands then. -/
structure Snap where
  f : Nat
  n0 : Nat
  l0 : ObL
  a : List RV
  r : RV
  n1 : Nat
  u : ObL
def Snap.fits (s : Snap) : Bool := s.u.all (fun p => (s.n0 ≤ p.1 || s.l0.any fun q => q.1 == p.1) && p.1 < s.n1) && s.l0.all (fun p => s.u.any fun q => q.1 == p.1)
noncomputable def Snap.orc (s : Snap) (args : List RV) (h : Hp) (k : K) : Bool :=
  iff (Nat.beq h.next s.n0) (iff (rvEqL args s.a) (allK h s.l0 (setsK s.u (Hp.pad h.t s.n1) fun h2 => k s.r h2)) false) false
noncomputable def Snap.check (s : Snap) (call : CallT) : Bool :=
  setsK s.l0 (Hp.pad .lf s.n0) fun h => call false s.f s.a h (fun r h' => iff (rvEq r s.r) (iff (Nat.beq h'.next s.n1) (allK h' s.u true) false) false) (fun _ _ => false)
section
variable {P : Program}
theorem Snap.sound {call : CallT} (hc : CallS P call) (s : Snap) (hf : s.fits = true) (hk : s.check call = true) {args : List RV} {h : Hp} {k : K} (ho : s.orc args h k = true) : ∃ r h', k r h' = true ∧ FnR P s.f args h r h' := by
  obtain ⟨e1, o1⟩ := iff_t ho
  have e1 := Nat.eq_of_beq_eq_true e1
  obtain ⟨e2, o2⟩ := iff_t o1
  have e2 := rvEqL_inv _ _ e2
  subst e2
  obtain ⟨o3, hl0⟩ := allK_inv o2
  obtain ⟨h2, o4, n2, at2⟩ := setsK_inv o3
  obtain ⟨H0, c1, N0, at0⟩ := setsK_inv hk
  rcases hc.fn _ _ _ _ _ c1 with ⟨r, h', c2, hg, hcf, hF⟩ | ⟨r, h', c2, _⟩
  rotate_left
  · exact absurd c2 (by decide)
  obtain ⟨d1, c3⟩ := iff_t c2
  have d1 := rvEq_inv _ _ d1
  subst d1
  obtain ⟨d2, c4⟩ := iff_t c3
  have d2 := Nat.eq_of_beq_eq_true d2
  obtain ⟨_, hu⟩ := allK_inv c4
  simp only [Snap.fits, Bool.and_eq_true, List.all_eq_true, Bool.or_eq_true, decide_eq_true_eq, List.any_eq_true, beq_iff_eq] at hf
  obtain ⟨f1, f3⟩ := hf
  have N0 : H0.next = s.n0 := N0
  have n2 : h2.next = s.n1 := n2
  have at0' : ∀ i, H0.at i = (lkO s.l0 i).getD .no := fun i => by rw [at0 i, Hp.pad_at]; rfl
  have at2' : ∀ i, h2.at i = (lkO s.u i).getD (h.at i) := fun i => by rw [at2 i, Hp.pad_at]
  have ge : s.n0 ≤ s.n1 := by have := hg.next; omega
  -- what is in the first list stands in both
  have in0 : ∀ i o, lkO s.l0 i = some o → h.at i = o ∧ o ≠ .no := fun i o hi => hl0 _ (lkO_mem hi)
  have inU : ∀ i o, lkO s.u i = some o → h'.at i = o ∧ o ≠ .no ∧ i < s.n1 ∧ (s.n0 ≤ i ∨ ∃ o', lkO s.l0 i = some o') := fun i o hi => by
    have hm := lkO_mem hi
    obtain ⟨g1, g2⟩ := f1 _ hm
    refine ⟨(hu _ hm).1, (hu _ hm).2, g2, ?_⟩
    rcases g1 with g | ⟨q, hq, e⟩
    · exact .inl g
    · exact .inr (lkO_some ⟨q.2, by rw [← (show q.1 = i from e)]; exact hq⟩)
  have sub : ∀ i, lkO s.u i = none → lkO s.l0 i = none := fun i hi => by
    cases h0 : lkO s.l0 i with
    | none => rfl
    | some o =>
      obtain ⟨q, hq, e⟩ := f3 _ (lkO_mem h0)
      obtain ⟨o', h3⟩ := lkO_some (l := s.u) (i := i) ⟨q.2, by rw [← (show q.1 = i from e)]; exact hq⟩
      rw [hi] at h3; cases h3
  refine ⟨_, h2, o4, ⟨by omega, fun fr i hi => ?_⟩, hcf, fun F δ W vs hR hvs => ?_⟩
  · rw [at2' i]
    cases hui : lkO s.u i with
    | none => exact fr i (by omega)
    | some o => have := (inU i o hui).2.2.1; omega
  -- the others are kept
  let F2 : Frm := ⟨W, fun b => ¬ F.free b ∨ ∃ i c, h.at i ≠ .no ∧ H0.at i = .no ∧ δ i = some (b, c), Ext.mono F.inv hR.ok.size fun b h1 h2 => ⟨hR.ok.block b h1 h2, .inl fun hf => hf h1 h2⟩⟩
  have hR0 : Rel F2 δ H0 W := by
    refine ⟨⟨⟨rfl, rfl, rfl, Nat.le_refl _, fun _ _ _ => rfl⟩, fun i hi => ?_, fun i j b c b' c' hi hj => ?_⟩, fun i hi => ?_⟩
    · have hi' : H0.at i = h.at i ∧ h.at i ≠ .no := by
        rw [at0' i] at hi ⊢
        cases h0 : lkO s.l0 i with
        | none => rw [h0] at hi; exact absurd rfl hi
        | some o => obtain ⟨g1, g2⟩ := in0 i o h0; exact ⟨g1.symm, by rw [g1]; exact g2⟩
      obtain ⟨b, c, hb, hO⟩ := hR.own i hi'.2
      refine ⟨b, c, hb, ?_⟩
      rw [hi'.1]
      refine hO.keep (fun hfr _ hk => ?_) (Pl.le_refl _) rfl
      rcases hk with hk | ⟨j, c', hj, hj0, hjb⟩
      · exact hk hfr
      · have hij : i ≠ j := fun e => by subst e; exact hi hj0
        exact hR.apart i j b c b c' hi'.2 hj hij hb hjb rfl
    · have l0 : ∀ i, H0.at i ≠ .no → h.at i ≠ .no := fun i hi => by
        rw [at0' i] at hi
        cases h0 : lkO s.l0 i with
        | none => rw [h0] at hi; exact absurd rfl hi
        | some o => obtain ⟨g1, g2⟩ := in0 i o h0; rw [g1]; exact g2
      exact hR.apart i j b c b' c' (l0 i hi) (l0 j hj)
    · rw [N0] at hi
      refine ⟨(hR.fresh i (by omega)).1, ?_⟩
      rw [at0' i]
      cases h0 : lkO s.l0 i with
      | none => rfl
      | some o => obtain ⟨g1, g2⟩ := in0 i o h0; exact absurd ((hR.fresh i (by omega)).2) (by rw [g1]; exact g2)
  refine (hF F2 δ W vs hR0 hvs).mono ?_
  rintro en W' ⟨δ', y, x, hy, rfl, hR'⟩
  refine ⟨δ', y, ⟨x.le, fun i hi => x.old i (by omega)⟩, hy, rfl, ?_⟩
  -- each is either of those that were kept, or told
  have key : ∀ i, h2.at i ≠ .no → (h2.at i = h'.at i ∧ h'.at i ≠ .no) ∨ (h2.at i = h.at i ∧ h.at i ≠ .no ∧ H0.at i = .no) := fun i hi => by
    rw [at2' i] at hi ⊢
    cases hui : lkO s.u i with
    | some o => obtain ⟨g1, g2, _⟩ := inU i o hui; exact .inl ⟨g1.symm, by rw [g1]; exact g2⟩
    | none => rw [hui] at hi; exact .inr ⟨rfl, hi, by rw [at0' i, sub i hui]; rfl⟩
  have kept : ∀ i b c, h.at i ≠ .no → H0.at i = .no → δ i = some (b, c) → b < W.heap.size ∧ W'.heap[b]? = W.heap[b]? ∧ ¬ F2.free b := fun i b c hi h0 hb => by
    obtain ⟨b', c', hb', hO⟩ := hR.own i hi
    rw [hb] at hb'; cases hb'
    have hlt := hO.lt hi
    exact ⟨hlt, hR'.ok.block b hlt (.inr ⟨i, c, hi, h0, hb⟩), fun hfr => hfr hlt (.inr ⟨i, c, hi, h0, hb⟩)⟩
  have fr : ∀ b, F2.free b → F.free b := fun b hb hlt => by
    have h1 : b < W.heap.size := Nat.lt_of_lt_of_le hlt hR.ok.size
    have := hb h1
    intro hk
    exact this (.inl fun hf => hf hlt hk)
  refine ⟨⟨?_, fun i hi => ?_, fun i j b c b' c' hi hj hij hb hb' => ?_⟩, fun i hi => ?_⟩
  · exact ⟨hR'.ok.os.trans hR.ok.os, hR'.ok.tape.trans hR.ok.tape, hR'.ok.output.trans hR.ok.output, Nat.le_trans hR.ok.size hR'.ok.size, fun b hb hk => by
      rw [hR'.ok.block b (Nat.lt_of_lt_of_le hb hR.ok.size) (.inl fun hf => hf hb hk)]; exact hR.ok.block b hb hk⟩
  · rcases key i hi with ⟨g1, g2⟩ | ⟨g1, g2, g3⟩
    · obtain ⟨b, c, hb, hO⟩ := hR'.own i g2
      refine ⟨b, c, hb, ?_⟩
      rw [g1]
      exact hO.keep (fr b) (Pl.le_refl _) rfl
    · obtain ⟨b, c, hb, hO⟩ := hR.own i g2
      refine ⟨b, c, x.le _ _ hb, ?_⟩
      rw [g1]
      exact hO.keep id x.le (kept i b c g2 g3 hb).2.1
  · rcases key i hi with ⟨_, g2⟩ | ⟨_, g2, g3⟩ <;> rcases key j hj with ⟨_, k2⟩ | ⟨_, k2, k3⟩
    · exact hR'.apart i j b c b' c' g2 k2 hij hb hb'
    · obtain ⟨b1, c1', hb1, hO⟩ := hR.own j k2
      have := x.le _ _ hb1
      rw [hb'] at this; cases this
      intro e; subst e
      exact (kept j _ _ k2 k3 hb1).2.2 (hR'.lt g2 hb).1
    · obtain ⟨b1, c1', hb1, hO⟩ := hR.own i g2
      have := x.le _ _ hb1
      rw [hb] at this; cases this
      intro e; subst e
      exact (kept i _ _ g2 g3 hb1).2.2 (hR'.lt k2 hb').1
    · obtain ⟨b1, c1', hb1, _⟩ := hR.own i g2
      obtain ⟨b2, c2', hb2, _⟩ := hR.own j k2
      have e1 := x.le _ _ hb1
      have e2 := x.le _ _ hb2
      rw [hb] at e1; cases e1
      rw [hb'] at e2; cases e2
      exact hR.apart i j _ _ _ _ g2 k2 hij hb1 hb2
  · rw [n2] at hi
    refine ⟨(hR'.fresh i (by omega)).1, ?_⟩
    rw [at2' i]
    cases hui : lkO s.u i with
    | none => exact (hR.fresh i (by omega)).2
    | some o => have := (inU i o hui).2.2.1; omega

/-- Several calls of one function. -/
noncomputable def orcs (l : List Snap) (args : List RV) (h : Hp) (k : K) : Bool :=
  @List.rec Snap (fun _ => Bool) false (fun s _ ih => iff (iff (Nat.beq h.next s.n0) (rvEqL args s.a) false) (s.orc args h k) ih) l
theorem orcs_ok {f : Nat} : ∀ {l : List Snap}, (∀ s ∈ l, s.f = f ∧ ∀ args h k, s.orc args h k = true → ∃ r h', k r h' = true ∧ FnR P s.f args h r h') → ∀ args h k, orcs l args h k = true → ∃ r h', k r h' = true ∧ FnR P f args h r h'
  | [], _, args, h, k, ho => absurd (show false = true from ho) (by decide)
  | s :: l, hs, args, h, k, ho => by
    rcases iff_inv (show iff (iff (Nat.beq h.next s.n0) (rvEqL args s.a) false) (s.orc args h k) (orcs l args h k) = true from ho) with ⟨_, h1⟩ | ⟨_, h1⟩
    · obtain ⟨e, h2⟩ := hs s (List.mem_cons_self ..)
      rw [← e]
      exact h2 args h k h1
    · exact orcs_ok (fun s' hs' => hs s' (List.mem_cons_of_mem _ hs')) args h k h1
end
end Go.L.Ev
namespace Go.L.Ev
open Go Go.RowKit
variable [Ext]

/-! ### What is asked of a program's tables, by checks -/
def qChk (P : Program) (q : List Nat) : Bool := q.all fun t => match P.underlying t with
  | some (.struct fs) => !P.stoodInHeld t && !P.eqGuardType P.depth t && fs.toList.all fun f => f.name != "_"
  | _ => true
def nmChk (P : Program) : Bool := P.funcs.toList.all fun fn => !(fn.name == "runtime.NumGoroutine")
def fsChk (P : Program) (n : Nat) : Bool := (List.range n).all fun t => match P.underlying t with
  | some (.struct fs) => fs.toList.all fun f => (P.info? f.type).isSome
  | _ => true
def zOne (i : TypeInfo) : Bool := !(Nat.ble i.size 1024) || (Nat.ble i.bytes 65536 && (match i.zero with | some z => Nat.beq z.cells.size i.size | none => false))
def zChk (P : Program) (n : Nat) : Bool := (List.range n).all fun t => match P.underlying t with
  | some (.slice e) => (match P.info? e with | some i => zOne i | none => true)
  | _ => true
theorem pg_of {P : Program} {n nt : Nat} {q : List Nat} (ht : P.types.size = nt) (hq : qChk P q = true) (hn : nmChk P = true) (hf : fsChk P nt = true) (hz : zChk P nt = true) (hm : P.follows .mixedOrders = true) :
    Pg P ⟨Tr.ofL n P.types.toList, q⟩ (Tr.ofL n P.funcs.toList) := by
  have lt : ∀ t i, (Tr.ofL n P.types.toList).get none t = some i → P.types[t]? = some i ∧ t < nt := fun t i h => by
    have h1 := Tr.ofL_get _ _ _ _ h
    rw [Array.getElem?_toList] at h1
    exact ⟨h1, by rw [← ht]; exact (Array.getElem?_eq_some_iff.1 h1).1⟩
  refine ⟨fun t i h => ?_, fun t fs h hu => ?_, fun f fn h => ?_, fun f fn h => ?_, fun t fs ⟨i, hi⟩ hu f hfm => ?_, fun t e i ⟨it, hit⟩ hu hi hs => ?_, hm⟩
  · obtain ⟨h1, h2⟩ := lt t i h
    simp only [Tables.info?]
    rw [if_pos (by rw [ht]; exact h2)]
    exact h1
  · have := List.all_eq_true.1 hq t (memN_mem h)
    rw [hu] at this
    simp only [Bool.and_eq_true, Bool.not_eq_true', List.all_eq_true, bne_iff_ne, ne_eq] at this
    exact ⟨this.1.1, this.1.2, this.2⟩
  · have h1 := Tr.ofL_get _ _ _ _ h
    rw [Array.getElem?_toList] at h1
    exact h1
  · have hm : fn ∈ P.funcs.toList := List.mem_of_getElem? (by rw [Array.getElem?_toList]; exact h)
    have := List.all_eq_true.1 hn fn hm
    simpa using this
  · have := List.all_eq_true.1 hf t (List.mem_range.2 (lt t i hi).2)
    rw [hu] at this
    exact List.all_eq_true.1 this f hfm
  · have := List.all_eq_true.1 hz t (List.mem_range.2 (lt t it hit).2)
    rw [hu] at this
    simp only [hi, zOne, Bool.or_eq_true, Bool.not_eq_true', Bool.and_eq_true] at this
    rcases this with h1 | ⟨h1, h2⟩
    · rw [Nat.ble_eq_true_of_le hs] at h1; cases h1
    · refine ⟨Nat.le_of_ble_eq_true h1, ?_⟩
      cases hzr : i.zero with
      | none => rw [hzr] at h2; cases h2
      | some z => rw [hzr] at h2; exact ⟨z, rfl, Nat.eq_of_beq_eq_true h2⟩
end Go.L.Ev
namespace Go.L.Ev
open Go Go.RowKit
variable [Ext]
set_option linter.unusedVariables false

/-! ### Where a byte stands first -/
noncomputable def idxB (c : Nat) (len : Nat) : Nat → Nat → (RV → Bool) → Bool :=
  @Nat.rec (fun _ => Nat → Nat → (RV → Bool) → Bool) (fun _ _ κ => κ (.int .i64 (.negSucc 0))) (fun _ ih m i κ => iff (Nat.beq (Nat.mod m 256) c) (natF i fun i => κ (.int .i64 (.ofNat i))) (ih (Nat.div m 256) (Nat.succ i) κ)) len
noncomputable def orcIB : List RV → Hp → K → Bool := fun args h k => iff (lenIs args 2) (nthK args 0 fun s => nthK args 1 fun c => rvStr s fun m n => rvInt c fun kc z => iff (ikEq kc .u8) (iNat z fun b => iff (Nat.blt b 256) (idxB b n m 0 fun r => k r h) false) false) false
theorem idxB_inv {c : Nat} (hc : c < 256) : ∀ (len m i : Nat) {κ : RV → Bool}, idxB c len m i κ = true →
    κ (.int .i64 (if Lib.indexByte (bytesOf len m) c.toUInt8 = -1 then -1 else (i : Int) + Lib.indexByte (bytesOf len m) c.toUInt8)) = true
  | 0, m, i, κ, h => by simpa [bytesOf, Lib.indexByte] using (show κ (.int .i64 (.negSucc 0)) = true from h)
  | len + 1, m, i, κ, h => by
    have h : iff (Nat.beq (m % 256) c) (natF i fun i => κ (.int .i64 (.ofNat i))) (idxB c len (m / 256) (i + 1) κ) = true := h
    have he : (UInt8.ofNat (m % 256) == c.toUInt8) = Nat.beq (m % 256) c := by
      rw [Bool.eq_iff_iff, beq_iff_eq, Nat.beq_eq]
      constructor
      · intro e
        have := congrArg UInt8.toNat e
        simp only [Nat.toUInt8, UInt8.toNat_ofNat'] at this
        omega
      · intro e; rw [e]; try rfl
    simp only [bytesOf, Lib.indexByte, he]
    rcases iff_inv h with ⟨e, h1⟩ | ⟨e, h1⟩
    · rw [natF_eq] at h1
      rw [e]
      simpa using h1
    · have h2 := idxB_inv hc len (m / 256) (i + 1) h1
      rw [e]
      have hge := Lib.indexByte_ge (bytesOf len (m / 256)) c.toUInt8
      by_cases hn : Lib.indexByte (bytesOf len (m / 256)) c.toUInt8 = -1
      · simp only [hn] at h2 ⊢
        simpa using h2
      · simp only [if_neg hn] at h2
        have hb : (Lib.indexByte (bytesOf len (m / 256)) c.toUInt8 == -1) = false := by simpa using hn
        simp only [hb, Bool.false_eq_true, if_false]
        rw [if_neg (by omega)]
        rw [show (i : Int) + (Lib.indexByte (bytesOf len (m / 256)) c.toUInt8 + 1) = ((i + 1 : Nat) : Int) + Lib.indexByte (bytesOf len (m / 256)) c.toUInt8 by push_cast; omega]
        exact h2
theorem orcIB_ok {P : Program} {f : Nat} (hen : ∀ args w, (callFunc f args).run P w = .ok (.enter f args) w)
    (hC : ∀ (s : ByteArray) (c : Int) (w : World), Calls P f #[.string s, .int .u8 c] w fun e w' => e = .returned (.int .i64 (Lib.indexByte s.data.toList c.toNat.toUInt8)) ∧ w' = w)
    (args : List RV) (h : Hp) (k : K) (hk : orcIB args h k = true) : ∃ r h', k r h' = true ∧ FnR P f args h r h' := by
  obtain ⟨hl, h1⟩ := iff_t hk
  obtain ⟨s, hs, h2⟩ := nthK_inv h1
  obtain ⟨c, hc, h3⟩ := nthK_inv h2
  have ha := two (lenIs_inv hl) hs hc
  subst ha
  obtain ⟨m, n, rfl, hw, h4⟩ := rvStr_inv h3
  obtain ⟨kc, z, rfl, h5⟩ := rvInt_inv h4
  obtain ⟨e1, h6⟩ := iff_t h5
  cases ikEq_inv e1
  obtain ⟨b, rfl, h7⟩ := iNat_inv h6
  obtain ⟨e2, h8⟩ := iff_t h7
  have hb : b < 256 := of_decide_eq_true (by simpa [Nat.blt_eq] using e2)
  have h9 := idxB_inv hb n m 0 h8
  refine ⟨_, h, h9, Grow.refl h, hen, fun F δ W vs hR hvs => ?_⟩
  obtain ⟨x, l1, hx, hl1, rfl⟩ := decL_cons_inv hvs
  obtain ⟨y, l2, hy, hl2, rfl⟩ := decL_cons_inv hl1
  rw [decL_nil] at hl2; cases hl2
  rw [dec_str hw hx, dec_int hy]
  refine (hC (strOf m n) (b : Int) W).mono ?_
  rintro e w' ⟨rfl, rfl⟩
  refine ⟨δ, _, Ex.refl h δ, rfl, ?_, hR⟩
  congr 2
  have e3 : (strOf m n).data.toList = bytesOf n m := by simp [strOf]
  rw [e3, Int.toNat_natCast]
  by_cases hn : Lib.indexByte (bytesOf n m) b.toUInt8 = -1
  · simp [hn]
  · simp [hn]
end Go.L.Ev
namespace Go.L.Ev
open Go Go.RowKit
variable [Ext]
set_option linter.unusedVariables false
section
variable {P : Program}

/-! ### Calls chained -/
def SnapOK (P : Program) (s : Snap) : Prop := ∀ args h k, s.orc args h k = true → ∃ r h', k r h' = true ∧ FnR P s.f args h r h'
theorem snapOK {call : CallT} (hc : CallS P call) {s : Snap} (hf : s.fits = true) (hk : s.check call = true) : SnapOK P s := fun _ _ _ ho => Snap.sound hc s hf hk ho
/-- All are of this function, and sound. -/
inductive SnapsOK (P : Program) (f : Nat) : List Snap → Prop where
  | nil : SnapsOK P f []
  | cons {s : Snap} {l : List Snap} (e : s.f = f) (h : SnapOK P s) (hl : SnapsOK P f l) : SnapsOK P f (s :: l)
theorem SnapsOK.all {f : Nat} {l : List Snap} (h : SnapsOK P f l) : ∀ s ∈ l, s.f = f ∧ SnapOK P s := by
  induction h with
  | nil => intro s hs; cases hs
  | cons e h _ ih =>
    intro s hs
    rcases List.mem_cons.1 hs with rfl | hs
    · exact ⟨e, h⟩
    · exact ih s hs
theorem OvS.snaps {ov : OvT} (h : OvS P ov) {f : Nat} {l : List Snap} (hl : SnapsOK P f l) : OvS P ((f, .orc (orcs l)) :: ov) :=
  ⟨fun g o hg args hp k ho => by
      rcases List.mem_cons.1 hg with e | hg
      · cases e
        exact orcs_ok hl.all args hp k ho
      · exact h.orc g o hg args hp k ho,
    fun g t hg => by
      rcases List.mem_cons.1 hg with e | hg
      · cases e
      · exact h.cgt g t hg,
    fun g t hg => by
      rcases List.mem_cons.1 hg with e | hg
      · cases e
      · exact h.cg1 g t hg⟩
theorem OvS.none : OvS P [] := ⟨fun _ _ h => (by cases h), fun _ _ h => (by cases h), fun _ _ h => (by cases h)⟩
theorem OvS.orc1 {ov : OvT} (h : OvS P ov) {f : Nat} {o : List RV → Hp → K → Bool} (hs : ∀ args h k, o args h k = true → ∃ r h', k r h' = true ∧ FnR P f args h r h') : OvS P ((f, .orc o) :: ov) :=
  ⟨fun g o hg args hp k ho => by
      rcases List.mem_cons.1 hg with e | hg
      · cases e; exact hs args hp k ho
      · exact h.orc g o hg args hp k ho,
    fun g t hg => by
      rcases List.mem_cons.1 hg with e | hg
      · cases e
      · exact h.cgt g t hg,
    fun g t hg => by
      rcases List.mem_cons.1 hg with e | hg
      · cases e
      · exact h.cg1 g t hg⟩
theorem OvS.cgtC {ov : OvT} (h : OvS P ov) {f : Nat} {t : TypeId} (hs : CgtS P f t) : OvS P ((f, .cgt t) :: ov) :=
  ⟨fun g o hg => by
      rcases List.mem_cons.1 hg with e | hg
      · cases e
      · exact h.orc g o hg,
    fun g u hg => by
      rcases List.mem_cons.1 hg with e | hg
      · cases e; exact hs
      · exact h.cgt g u hg,
    fun g t hg => by
      rcases List.mem_cons.1 hg with e | hg
      · cases e
      · exact h.cg1 g t hg⟩
theorem OvS.cg1C {ov : OvT} (h : OvS P ov) {f : Nat} {t : TypeId} (hs : CgtS1 P f t) : OvS P ((f, .cg1 t) :: ov) :=
  ⟨fun g o hg => by
      rcases List.mem_cons.1 hg with e | hg
      · cases e
      · exact h.orc g o hg,
    fun g t hg => by
      rcases List.mem_cons.1 hg with e | hg
      · cases e
      · exact h.cgt g t hg,
    fun g u hg => by
      rcases List.mem_cons.1 hg with e | hg
      · cases e; exact hs
      · exact h.cg1 g u hg⟩

/-- A function without parameters that answers true, in any world; what was there stays. -/
theorem true_of {call : CallT} (hc : CallS P call) {f : Nat} (hk : call false f [] ⟨0, .lf⟩ (fun r _ => rvEq r (.bool true)) (fun _ _ => false) = true) (W : World) (hx : Ext.ok W fun _ => True) :
    Calls P f #[] W fun e W' => e = .returned (.bool true) ∧ W'.os = W.os ∧ W'.tape = W.tape ∧ W'.output = W.output ∧ W.heap.size ≤ W'.heap.size ∧ ∀ b, b < W.heap.size → W'.heap[b]? = W.heap[b]? := by
  rcases hc.fn _ _ _ _ _ hk with ⟨r, h', h1, _, _, hF⟩ | ⟨_, _, h1, _⟩
  · have h1 := rvEq_inv _ _ h1
    subst h1
    have hR : Rel ⟨W, fun _ => True, hx⟩ (fun _ => none) ⟨0, .lf⟩ W := by
      refine ⟨⟨⟨rfl, rfl, rfl, Nat.le_refl _, fun _ _ _ => rfl⟩, fun i hi => absurd rfl hi, fun i j b c b' c' hi => absurd rfl hi⟩, fun i _ => ⟨rfl, rfl⟩⟩
    refine (hF _ _ W [] hR rfl).mono ?_
    rintro e W' ⟨δ', x, _, hx, rfl, hR'⟩
    rw [dec_bool hx]
    exact ⟨rfl, hR'.ok.os, hR'.ok.tape, hR'.ok.output, hR'.ok.size, fun b hb => hR'.ok.block b hb trivial⟩
  · cases h1
/-- The same of a function that is given what hangs on no place. -/
theorem true_ofA {call : CallT} (hc : CallS P call) {f : Nat} {a : List RV} {vs : List Value} (hk : call false f a ⟨0, .lf⟩ (fun r _ => rvEq r (.bool true)) (fun _ _ => false) = true) (ha : decL (fun _ => none) a = some vs) (W : World) (hx : Ext.ok W fun _ => True) :
    Calls P f vs.toArray W fun e W' => e = .returned (.bool true) ∧ W'.os = W.os ∧ W'.tape = W.tape ∧ W'.output = W.output ∧ W.heap.size ≤ W'.heap.size ∧ ∀ b, b < W.heap.size → W'.heap[b]? = W.heap[b]? := by
  rcases hc.fn _ _ _ _ _ hk with ⟨r, h', h1, _, _, hF⟩ | ⟨_, _, h1, _⟩
  · have h1 := rvEq_inv _ _ h1
    subst h1
    have hR : Rel ⟨W, fun _ => True, hx⟩ (fun _ => none) ⟨0, .lf⟩ W := by
      refine ⟨⟨⟨rfl, rfl, rfl, Nat.le_refl _, fun _ _ _ => rfl⟩, fun i hi => absurd rfl hi, fun i j b c b' c' hi => absurd rfl hi⟩, fun i _ => ⟨rfl, rfl⟩⟩
    refine (hF _ _ W vs hR ha).mono ?_
    rintro e W' ⟨δ', x, _, hx, rfl, hR'⟩
    rw [dec_bool hx]
    exact ⟨rfl, hR'.ok.os, hR'.ok.tape, hR'.ok.output, hR'.ok.size, fun b hb => hR'.ok.block b hb trivial⟩
  · cases h1
/-- Nothing lies outside. -/
abbrev ext0 : Ext := ⟨id, fun _ _ => True, fun _ _ _ => trivial⟩
end
end Go.L.Ev
namespace Go.L.Ev
open Go Go.RowKit
variable [Ext]
set_option linter.unusedVariables false
set_option linter.unusedSimpArgs false
section
variable {P : Program}

/-! ### A law: a helper that answers true, arguments that are not looked into -/
/-- All that was there stays: so does what is made. -/
theorem Rel.kept {F : Frm} {δ : Pl} {h : Hp} {W W' : World} (H : Rel F δ h W) (os : W'.os = W.os) (tp : W'.tape = W.tape) (ou : W'.output = W.output) (sz : W.heap.size ≤ W'.heap.size) (bl : ∀ b, b < W.heap.size → W'.heap[b]? = W.heap[b]?) : Rel F δ h W' :=
  ⟨⟨⟨os.trans H.ok.os, tp.trans H.ok.tape, ou.trans H.ok.output, Nat.le_trans H.ok.size sz, fun b hb hk => by
      rw [bl b (Nat.lt_of_lt_of_le hb H.ok.size)]; exact H.ok.block b hb hk⟩,
    fun i hi => by
      obtain ⟨b, c, hb, hO⟩ := H.own i hi
      exact ⟨b, c, hb, hO.keep id (Pl.le_refl _) (bl b (hO.lt hi))⟩,
    H.apart⟩, H.fresh⟩
/-- A function without parameters that answers true and leaves nothing behind that is looked at. -/
noncomputable def orcT (args : List RV) (h : Hp) (k : K) : Bool := @List.rec RV (fun _ => Bool) (k (.bool true) h) (fun _ _ _ => false) args
theorem orcT_ok {f : Nat} (hcf : ∀ args w, (callFunc f args).run P w = .ok (.enter f args) w)
    (hm : ∀ W, Calls P f #[] W fun e W' => e = .returned (.bool true) ∧ W'.os = W.os ∧ W'.tape = W.tape ∧ W'.output = W.output ∧ W.heap.size ≤ W'.heap.size ∧ ∀ b, b < W.heap.size → W'.heap[b]? = W.heap[b]?) :
    ∀ args h k, orcT args h k = true → ∃ r h', k r h' = true ∧ FnR P f args h r h' := by
  intro args h k ho
  cases args with
  | nil =>
    refine ⟨_, h, ho, Grow.refl h, hcf, fun F δ W vs hR hvs => ?_⟩
    rw [decL_nil] at hvs
    cases hvs
    refine (hm W).mono ?_
    rintro e W' ⟨he, h1, h2, h3, h4, h5⟩
    exact ⟨δ, .bool true, Ex.refl h δ, by simp [dec], he, hR.kept h1 h2 h3 h4 h5⟩
  | cons a l => exact absurd (show false = true from ho) (by decide)

/-- A value of one cell: what arguments are made of. -/
inductive LeafV : Value → Prop
  | str (s : ByteArray) : LeafV (.string s)
  | int (k : IntKind) (n : Int) : LeafV (.int k n)
  | bool (b : Bool) : LeafV (.bool b)
  | nils : LeafV (.slice none 0 0)
  | slc (b off len cap : Nat) : LeafV (.slice (some ⟨b, off, none⟩) len cap)
noncomputable def rvOf (i : Nat) : Value → RV
  | .string s => .str (natOf s.data.toList) s.data.toList.length
  | .int k n => .int k n
  | .bool b => .bool b
  | .slice (some a) len cap => .asl i a.off len cap
  | _ => .nils
noncomputable def plOf (C : List Value) : Pl := fun i => match C[i]? with
  | some (.slice (some a) _ _) => some (a.block, 0)
  | _ => none
theorem rvOf_dec {C : List Value} {i : Nat} {v : Value} (hi : C[i]? = some v) (hv : LeafV v) : dec (plOf C) (rvOf i v) = some v := by
  cases hv with
  | str s =>
    simp only [rvOf]
    rw [str_dec (fun e => by rw [List.eq_nil_of_length_eq_zero e]; rfl), strOf_natOf]
  | int k n => simp [rvOf, dec]
  | bool b => simp [rvOf, dec]
  | nils => simp [rvOf, dec]
  | slc b off len cap => simp [rvOf, dec, plOf, hi]
noncomputable def gOf (C : List Value) (i : Nat) : RV := match C[i]? with
  | some v => rvOf i v
  | none => .nils
theorem gOf_dec {C : List Value} (hl : ∀ v ∈ C, LeafV v) {i : Nat} {v : Value} (hi : C[i]? = some v) : dec (plOf C) (gOf C i) = some v := by
  simp only [gOf, hi]
  exact rvOf_dec hi (hl v (List.mem_of_getElem? hi))

/-- So many values from a place on. -/
noncomputable def glist (g : Nat → RV) (n : Nat) : Nat → List RV := @Nat.rec (fun _ => Nat → List RV) (fun _ => []) (fun _ ih s => g s :: ih (Nat.succ s)) n
/-- Arguments: structs of so many cells, single values. -/
noncomputable def mkA (g : Nat → RV) (sh : List (Option Nat)) : Nat → List RV :=
  @List.rec (Option Nat) (fun _ => Nat → List RV) (fun _ => []) (fun o _ ih s => @Option.rec Nat (fun _ => List RV) (g s :: ih (Nat.succ s)) (fun n => .agg (glist g n s) :: ih (Nat.add s n)) o) sh
inductive ArgsV : List (Option Nat) → List Value → List Value → Prop
  | nil : ArgsV [] [] []
  | agg {sh : List (Option Nat)} {C vs : List Value} (cs : List Value) (h : ArgsV sh C vs) : ArgsV (some cs.length :: sh) (cs ++ C) (.agg cs.toArray :: vs)
  | leaf {sh : List (Option Nat)} {C vs : List Value} (v : Value) (h : ArgsV sh C vs) : ArgsV (none :: sh) (v :: C) (v :: vs)
theorem glist_dec {δ : Pl} {g : Nat → RV} : ∀ (cs : List Value) (s : Nat), (∀ i v, cs[i]? = some v → dec δ (g (s + i)) = some v) → decL δ (glist g cs.length s) = some cs
  | [], s, _ => decL_nil
  | v :: cs, s, h => by
    show decL δ (g s :: glist g cs.length (s + 1)) = _
    exact decL_cons (h 0 v rfl) (glist_dec cs (s + 1) fun i u hi => by rw [show s + 1 + i = s + (i + 1) by omega]; exact h (i + 1) u (by simpa using hi))
theorem ArgsV.dec {δ : Pl} {g : Nat → RV} {sh : List (Option Nat)} {C vs : List Value} (h : ArgsV sh C vs) : ∀ s, (∀ i v, C[i]? = some v → Ev.dec δ (g (s + i)) = some v) → decL δ (mkA g sh s) = some vs := by
  induction h with
  | nil => intro s _; exact decL_nil
  | @agg sh C vs cs h ih =>
    intro s hs
    show decL δ (.agg (glist g cs.length s) :: mkA g sh (s + cs.length)) = _
    refine decL_cons ?_ (ih (s + cs.length) fun i v hi => ?_)
    · have := glist_dec cs s fun i v hi => hs i v (by rw [List.getElem?_append_left (List.getElem?_eq_some_iff.1 hi).1]; exact hi)
      simp [Ev.dec, this]
    · rw [Nat.add_assoc]; exact hs _ v (by rw [List.getElem?_append_right (by omega)]; simpa using hi)
  | @leaf sh C vs v h ih =>
    intro s hs
    show decL δ (g s :: mkA g sh (s + 1)) = _
    exact decL_cons (hs 0 v rfl) (ih (s + 1) fun i u hi => by rw [show s + 1 + i = s + (i + 1) by omega]; exact hs (i + 1) u (by simpa using hi))
/-- A law that an evaluation shows to answer true, whatever it is given. -/
theorem law_true {call : CallT} (hc : CallS P call) {f n : Nat} {sh : List (Option Nat)} {C vs : List Value}
    (hk : ∀ g : Nat → RV, call false f (mkA g sh 0) (Hp.pad .lf n) (fun r _ => rvEq r (.bool true)) (fun _ _ => false) = true)
    (ha : ArgsV sh C vs) (hn : C.length = n) (hl : ∀ v ∈ C, LeafV v) (W : World) (hx : Ext.ok W fun _ => True) : Calls P f vs.toArray W fun e W' => e = .returned (.bool true) ∧ Below W.heap.size W W' := by
  rcases hc.fn _ _ _ _ _ (hk (gOf C)) with ⟨r, h', h1, _, _, hF⟩ | ⟨_, _, h1, _⟩
  · have h1 := rvEq_inv _ _ h1
    subst h1
    have h0 : ∀ i, (Hp.pad .lf n).at i = .no := fun i => Hp.pad_at .lf n i
    have hR : Rel ⟨W, fun _ => True, hx⟩ (plOf C) (Hp.pad .lf n) W := by
      refine ⟨⟨⟨rfl, rfl, rfl, Nat.le_refl _, fun _ _ _ => rfl⟩, fun i hi => absurd (h0 i) hi, fun i j b c b' c' hi => absurd (h0 i) hi⟩, fun i hi => ⟨?_, h0 i⟩⟩
      have hi : n ≤ i := hi
      simp only [plOf, List.getElem?_eq_none (show C.length ≤ i by omega)]
    refine (hF _ _ W vs hR (ha.dec 0 fun i v hi => by rw [Nat.zero_add]; exact gOf_dec hl hi)).mono ?_
    rintro e W' ⟨δ', x, _, hx, rfl, hR'⟩
    rw [dec_bool hx]
    exact ⟨rfl, hR'.ok.os, hR'.ok.tape, hR'.ok.output, hR'.ok.size, fun b hb => hR'.ok.block b hb trivial⟩
  · cases h1

/-! ### What is handed in -/
def leafT (P : Program) (u : TypeId) : Bool := match P.underlying u with
  | some .string | some .bool | some (.int _) | some (.slice _) => true
  | _ => false
def aggT (P : Program) (t : TypeId) : Bool := match P.underlying t with
  | some (.struct _) | some (.array _ _) => true
  | _ => false
def leavesT (P : Program) (t : TypeId) : Bool := match P.cellTypes P.depth t with
  | some ts => ts.all (leafT P)
  | none => false
theorem leaf_of_ok {w : World} {r : Reach} {b : Nat} {u : TypeId} {v : Value} (hu : leafT P u = true) (h : Cell.okWide P w r b u v) : LeafV v := by
  unfold leafT at hu
  unfold Cell.okWide Cell.ok at h
  split at hu
  · rename_i e; rw [e] at h; cases v <;> simp at h; exact .str _
  · rename_i e; rw [e] at h; cases v <;> simp at h; exact .bool _
  · rename_i e; rw [e] at h; cases v <;> simp at h; exact .int _ _
  · rename_i e
    rw [e] at h
    cases v with
    | slice a len cap =>
      cases a with
      | none =>
        cases len <;> cases cap <;> simp at h
        exact .nils
      | some a =>
        simp at h
        obtain ⟨_, _, _, hs, _⟩ := h
        obtain ⟨b, off, spot⟩ := a
        cases hs
        exact .slc _ _ _ _
    | _ => simp at h
  · cases hu
theorem open_agg {w : World} {r : Reach} {b : Nat} {t : TypeId} {v : Value} (h1 : aggT P t = true) (h2 : leavesT P t = true) (h : Value.okWide P w r b t v) : ∃ cs : List Value, v = .agg cs.toArray ∧ cs.length = P.cellsOf t ∧ ∀ x ∈ cs, LeafV x := by
  have key : ∀ cs : Array Value, Row.okWide P w r b t cs → ∀ x ∈ cs.toList, LeafV x := by
    rintro cs ⟨ts, hts, _, hc⟩ x hx
    obtain ⟨i, hi⟩ := List.mem_iff_getElem?.1 hx
    obtain ⟨u, hu, hok⟩ := hc i x (by simpa using hi)
    unfold leavesT at h2
    rw [hts] at h2
    exact leaf_of_ok (List.all_eq_true.1 h2 u (List.mem_of_getElem? hu)) hok
  unfold aggT at h1
  unfold Value.okWide at h
  split at h1
  · rename_i e
    rw [e] at h
    obtain ⟨cs, rfl, hs, hr⟩ := h
    exact ⟨cs.toList, by simp, by simpa using hs, key cs hr⟩
  · rename_i e
    rw [e] at h
    obtain ⟨cs, rfl, hs, hr⟩ := h
    exact ⟨cs.toList, by simp, by simpa using hs, key cs hr⟩
  · cases h1
theorem open_leaf {w : World} {r : Reach} {b : Nat} {t : TypeId} {v : Value} (h1 : leafT P t = true) (h : Value.okWide P w r b t v) : LeafV v := by
  refine leaf_of_ok (w := w) (r := r) (b := b) h1 ?_
  unfold leafT at h1
  unfold Value.okWide at h
  split at h1
  · rename_i e; rw [e] at h; exact h
  · rename_i e; rw [e] at h; exact h
  · rename_i e; rw [e] at h; exact h
  · rename_i e; rw [e] at h; exact h
  · cases h1
end
end Go.L.Ev
namespace Go.L
open Go Go.RowKit Go.Sort
set_option linter.unusedSimpArgs false
set_option linter.unusedVariables false

/-! ### A map's keys, sorted -/
abbrev vI (n : Int) : Value := .int .i64 n
theorem ints_hold {w : World} {g : Nat} {cur : Array Value} {e : TypeId} {zs : List Int} (hb : w.heap[g]? = some (.cells cur e (0, 0))) (ht : cur.toList.take zs.length = zs.map vI) : Holds vI w g 0 zs.toArray := by
  intro j hj
  have hj' : j < zs.length := by simpa using hj
  refine ⟨?_, by simp [World.frozen?, hb]⟩
  have h1 : (cur.toList.take zs.length)[j]? = (zs.map vI)[j]? := by rw [ht]
  rw [List.getElem?_take_of_lt hj'] at h1
  simp only [World.cell?, hb, Nat.zero_add]
  simp only [Option.isSome_none, Bool.false_eq_true, if_false]
  rw [← Array.getElem?_toList, h1]
  simp [hj']
theorem ints_heap {w : World} {g n : Nat} {os : Array Obj} {cur : Array Value} {e : TypeId} {fr : Nat × Nat} (d : Array Int) (hb : w.heap[g]? = some (.cells cur e fr)) :
    (grow (putRow vI (Sort.ahead w n) g 0 d) os).heap[g]? = some (.cells (putCells vI 0 d cur) e fr) := by
  have hg : g < w.heap.size := (Array.getElem?_eq_some_iff.1 hb).1
  rw [heap_grow_old _ _ (by simpa using hg)]
  simp [putRow, mapBlock, Sort.ahead, Array.getElem?_modify, hb, onCells]
theorem ints_grown {w : World} {g n : Nat} {os : Array Obj} (d : Array Int) : w.grownBy (grow (putRow vI (Sort.ahead w n) g 0 d) os) (some g) := by
  refine ⟨rfl, rfl, rfl, by simp, fun k hk hne => ?_⟩
  rw [heap_grow_old _ _ (by simpa using hk)]
  have : g ≠ k := fun e => hne (by rw [e])
  simp [putRow, mapBlock, Sort.ahead, Array.getElem?_modify, this]
theorem ints_take (cur : Array Value) (ts : List Int) (h : ts.length ≤ cur.size) : (putCells vI 0 ts.toArray cur).toList.take ts.length = ts.map vI := by
  apply List.ext_getElem?
  intro j
  by_cases hj : j < ts.length
  · rw [List.getElem?_take_of_lt hj, Array.getElem?_toList]
    simp [putCells, hj, show j < cur.size by omega]
  · rw [List.getElem?_take_eq_none (by omega), List.getElem?_eq_none (by simp; omega)]
theorem ints_owned {w : World} {base g cap n : Nat} {e : TypeId} {os : Array Obj} {cur : Array Value} {m : Nat} {ts : List Int} (hl : ts.length = m) (hbase : base ≤ g) (hb : w.heap[g]? = some (.cells cur e (0, 0)))
    (h1 : m ≤ cap) (h2 : cap ≤ maxLen) (h3 : cur.size = cap * 1) :
    (grow (putRow vI (Sort.ahead w n) g 0 ts.toArray) os).ownsRow base e 1 (.slice (some ⟨g, 0, none⟩) m cap) m (ts.map vI) :=
  ⟨by simp [hl], .inr ⟨g, cap, _, rfl, hbase, ints_heap _ hb, h1, h2, by simp [putCells, h3], by rw [Nat.mul_one, ← hl]; exact ints_take cur ts (by omega)⟩⟩

def insI (a : Int) : List Int → List Int
  | [] => [a]
  | b :: l => if b < a then b :: insI a l else a :: b :: l
def sortI : List Int → List Int
  | [] => []
  | a :: l => insI a (sortI l)
theorem insI_perm (a : Int) : ∀ l, (insI a l).Perm (a :: l)
  | [] => List.Perm.refl _
  | b :: l => by
    unfold insI
    by_cases h : b < a
    · rw [if_pos h]; exact ((insI_perm a l).cons b).trans (List.Perm.swap a b l)
    · rw [if_neg h]
theorem sortI_perm : ∀ l, (sortI l).Perm l
  | [] => List.Perm.refl _
  | a :: l => (insI_perm a (sortI l)).trans ((sortI_perm l).cons a)
theorem insI_sorted (a : Int) : ∀ l : List Int, l.Pairwise (· ≤ ·) → (insI a l).Pairwise (· ≤ ·)
  | [], _ => by simp [insI]
  | b :: l, h => by
    unfold insI
    rw [List.pairwise_cons] at h
    by_cases hb : b < a
    · rw [if_pos hb, List.pairwise_cons]
      refine ⟨fun x hx => ?_, insI_sorted a l h.2⟩
      rcases List.mem_cons.1 ((insI_perm a l).mem_iff.1 hx) with rfl | hx
      · omega
      · exact h.1 x hx
    · rw [if_neg hb, List.pairwise_cons, List.pairwise_cons]
      refine ⟨fun x hx => ?_, h⟩
      rcases List.mem_cons.1 hx with rfl | hx
      · omega
      · have := h.1 x hx; omega
theorem sortI_sorted : ∀ l : List Int, (sortI l).Pairwise (· ≤ ·)
  | [] => List.Pairwise.nil
  | a :: l => insI_sorted a _ (sortI_sorted l)
theorem sortI_eq {l ks : List Int} (h : l.Perm ks) : (l.mergeSort fun x y => decide (x ≤ y)) = sortI ks := by
  refine List.Perm.eq_of_pairwise (le := fun x y : Int => x ≤ y) (fun a b _ _ h1 h2 => by omega) ?_ (sortI_sorted ks) (((List.mergeSort_perm l _).trans h).trans (sortI_perm ks).symm)
  have := List.pairwise_mergeSort (le := fun x y : Int => decide (x ≤ y)) (fun a b c h1 h2 => by simp at h1 h2 ⊢; omega) (fun a b => by simp; omega) l
  exact this.imp fun h => by simpa using h

theorem born_inj {l : List MapEntry} (hn : (l.map (·.born)).Nodup) {a b : MapEntry} (ha : a ∈ l) (hb : b ∈ l) (h : a.born = b.born) : a = b := by
  induction l with
  | nil => cases ha
  | cons x l ih =>
    rw [List.map_cons, List.nodup_cons] at hn
    rcases List.mem_cons.1 ha with rfl | ha' <;> rcases List.mem_cons.1 hb with rfl | hb'
    · rfl
    · exact absurd (List.mem_map.2 ⟨b, hb', h.symm⟩) hn.1
    · exact absurd (List.mem_map.2 ⟨a, ha', h⟩) hn.1
    · exact ih hn.2 ha' hb'
theorem nodup_of_born {l : List MapEntry} (hn : (l.map (·.born)).Nodup) : l.Nodup := by
  induction l with
  | nil => exact List.nodup_nil
  | cons x l ih =>
    rw [List.map_cons, List.nodup_cons] at hn
    exact List.nodup_cons.2 ⟨fun h => hn.1 (List.mem_map.2 ⟨x, h, rfl⟩), ih hn.2⟩
theorem keys_perm {ps es : List MapEntry} {l ks : List Int} (h : ps.Perm es) (hp : ps.map (·.key) = l.map vI) (hk : es.map (·.key) = ks.map vI) : l.Perm ks := by
  have h1 : (l.map vI).Perm (ks.map vI) := by rw [← hp, ← hk]; exact h.map _
  have inv : ∀ m : List Int, (m.map vI).map (fun v : Value => match v with | .int _ n => n | _ => 0) = m := fun m => by
    rw [List.map_map]
    exact List.map_id m
  have h2 := h1.map (fun v : Value => match v with | .int _ n => n | _ => 0)
  rw [inv, inv] at h2
  exact h2

section
variable {P : Program}
/-- A map's keys, gathered in whatever order they come, then sorted by the library. -/
theorem sorted_walk {tm kt et ts te : TypeId} {g : FuncId} {w : World} {bm : Nat} {es : Array MapEntry} {clock : Nat} {R : Ending → World → Prop} (hm : P.underlying tm = some (.map kt et)) (E : Elt P ts te 1 8)
    (hg : ∀ args w, (callFunc g args).run P w = .ok (.enter g args) w)
    (hs : ∀ (blk off cap : Nat) (zs : List Int) (w : World), Holds (Value.int .i64) w blk off zs.toArray → blk < w.heap.size → zs.length < 4611686018427387904 → Calls P g #[.slice (some ⟨blk, off, none⟩) zs.length cap] w fun e w' =>
      e = .returned (.tuple #[]) ∧ ∃ n os, w' = grow (putRow (Value.int .i64) (Sort.ahead w n) blk off (zs.mergeSort fun x y => decide (x ≤ y)).toArray) os)
    (hb : w.heap[bm]? = some (.map es clock)) {ks : List Int} (hk : es.toList.map (·.key) = ks.map vI) (hn : (es.toList.map (·.born)).Nodup) (hold : ∀ x ∈ es.toList, x.born < clock) (h0 : 0 < ks.length) (hl : ks.length ≤ 1000)
    (h : ∀ x V, St w [.row x te 1 ks.length ((sortI ks).map vI)] V → R (.returned x) V) :
    kRng (cR P R) w tm (.map (some bm)) fun v5 w_1 =>
    kLoopF [(.slice none 0 0)] w_1 fun cs ds w_2 N =>
    (fun x2 =>
    kNxt (cR P R) w_2 v5 false 0 fun v6 w_3 =>
    kExt v6 0 fun v7 =>
    kIf v7 (
    kEnt (cR P R) w_3 v5 fun v8 w_4 =>
    kExt v8 0 fun v9 =>
    kBuildS (cR P R) w_4 ts 1 #[(0, v9)] fun v12 w_5 =>
    kBlt (cR P R) w_5 .append #[ts, ts] ts #[false, false] #[x2, v12] fun v13 w_6 =>
    kD [] [] (N [v13] w_6)) (
    kCall (cR P R) w_3 g #[x2] fun v15 w_7 =>
    R (.returned x2) w_7)) (cs.getD 0 undef) := by
  have hbl : bm < w.heap.size := (Array.getElem?_eq_some_iff.1 hb).1
  have hel : es.toList.length = ks.length := by simpa using congrArg List.length hk
  refine ⟨kVal_do (run_range_map w tm kt et bm es clock hm hb) ?_⟩
  have hS0 : St w [.row (.slice none 0 0) te 1 0 []] w := (St.start w).push ⟨rfl, rfl, rfl, Nat.le_refl _, fun _ _ _ => rfl⟩ ⟨rfl, .inl ⟨rfl, rfl⟩⟩ (fun k hk => by cases hk)
  have hS1 : St w [.row (.slice none 0 0) te 1 0 [], .ob w.heap.size (.mapIter (some bm) clock #[] clock)] (w.alloc (.mapIter (some bm) clock #[] clock)) :=
    hS0.push (World.grownBy_alloc w _ _) ⟨Nat.le_refl _, World.alloc_heap_new w _⟩ (fun k hk => by cases hk; exact Nat.le_refl _)
  clear hS0
  generalize w.alloc (.mapIter (some bm) clock #[] clock) = W1 at hS1 ⊢
  refine ⟨⟨fun cs V => ∃ (c0 : Nat) (x : Value) (ps : List MapEntry) (l : List Int), cs = [x] ∧ clock ≤ c0 ∧ ps.map (·.key) = l.map vI ∧ (∀ p ∈ ps, p ∈ es.toList) ∧ (ps.map (·.born)).Nodup ∧
      St w [.row x te 1 l.length (l.map vI), .ob w.heap.size (.mapIter (some bm) clock (ps.map (·.born)).toArray c0)] V,
    fun cs _ => es.toList.length - (match cs with | [.slice _ n _] => n | _ => 0), ⟨clock, _, [], [], rfl, Nat.le_refl _, rfl, by simp, by simp, hS1⟩, ?_⟩⟩
  clear hS1
  rintro cs ds V ⟨c0, x, ps, l, rfl, hc0, hpk, hpm, hpn, hS⟩
  show kNxt _ _ _ _ _ _
  have hit : V.heap[w.heap.size]? = some (.mapIter (some bm) clock (ps.map (·.born)).toArray c0) := (hS.get 1 rfl).2
  have hbm : V.heap[bm]? = some (.map es clock) := by rw [hS.below.block bm hbl]; exact hb
  have hlen : l.length = ps.length := by simpa using (congrArg List.length hpk).symm
  rcases run_next_at (P := P) V 0 w.heap.size bm clock c0 _ es clock hit hbm hold hc0 with ⟨hz, hr⟩ | ⟨e, he, w1, hw1, hr⟩
  · refine ⟨kVal_do hr (kExt_i rfl (kIf_f ?_))⟩
    have hall : ∀ e ∈ es.toList, e ∈ ps := by
      intro e he
      have h1 : leftOf es (ps.map (·.born)).toArray = #[] := Array.eq_empty_of_size_eq_zero hz
      have h2 : e.born ∈ ps.map (·.born) := by
        refine Classical.byContradiction fun hc => ?_
        have h3 : e ∈ leftOf es (ps.map (·.born)).toArray := by
          unfold leftOf
          rw [Array.mem_filter]
          refine ⟨by simpa using he, ?_⟩
          simpa using fun x hx hxe => hc (List.mem_map.2 ⟨x, hx, hxe⟩)
        rw [h1] at h3
        simp at h3
      obtain ⟨p, hp, hpe⟩ := List.mem_map.1 h2
      rw [← born_inj hn (hpm p hp) he hpe]; exact hp
    have hperm : ps.Perm es.toList := (List.perm_ext_iff_of_nodup (nodup_of_born hpn) (nodup_of_born hn)).2 fun a => ⟨hpm a, hall a⟩
    have hlk : l.Perm ks := keys_perm hperm hpk hk
    have hll : l.length = ks.length := hlk.length_eq
    have hrow : V.ownsRow w.heap.size te 1 x l.length (l.map vI) := hS.get 0 rfl
    rcases hrow.2 with ⟨_, hl0⟩ | ⟨b, cap, cur, rfl, hbase, hcur, hcap, hmax, hsz, htk⟩
    · omega
    refine kCall_of (hg _ _) (hs b 0 cap l V (ints_hold hcur (by simpa using htk)) (Array.getElem?_eq_some_iff.1 hcur).1 (by omega)) ?_
    rintro e' W' ⟨rfl, n, os, rfl⟩
    refine h _ _ ?_
    rw [sortI_eq hlk]
    have := hS.set 0 (o := .row (.slice (some ⟨b, 0, none⟩) l.length cap) te 1 l.length (l.map vI)) (o' := .row (.slice (some ⟨b, 0, none⟩) l.length cap) te 1 ks.length ((sortI ks).map vI)) rfl (ints_grown (n := n) (os := os) (sortI ks).toArray)
      (by rw [hll]; exact ints_owned (sortI_perm ks).length_eq hbase hcur (by omega) hmax hsz) (.inl rfl)
    exact this.take 1
  · have hmem : e ∈ es.toList ∧ e.born ∉ ps.map (·.born) := by
      unfold leftOf at he
      rw [Array.mem_toList_iff, Array.mem_filter] at he
      refine ⟨by simpa using he.1, fun hc => ?_⟩
      obtain ⟨p, hp, hpe⟩ := List.mem_map.1 hc
      have := he.2
      simp at this
      exact this p hp hpe
    obtain ⟨z, hzk⟩ : ∃ z, e.key = vI z := by
      have : e.key ∈ es.toList.map (·.key) := List.mem_map.2 ⟨e, hmem.1, rfl⟩
      rw [hk] at this
      obtain ⟨z, _, hz⟩ := List.mem_map.1 this
      exact ⟨z, hz.symm⟩
    have hnd : ((ps ++ [e]).map (·.born)).Nodup := by
      rw [List.map_append, List.nodup_append]
      refine ⟨hpn, by simp, fun a ha b hb => ?_⟩
      simp at hb
      subst hb
      exact fun hc => hmem.2 (hc ▸ ha)
    have hsub : ∀ p ∈ ps ++ [e], p ∈ es.toList := fun p hp => by
      rcases List.mem_append.1 hp with hp | hp
      · exact hpm p hp
      · simp at hp; subst hp; exact hmem.1
    have hle : ps.length + 1 ≤ es.toList.length := by
      have := List.Nodup.length_le_of_subset (nodup_of_born hnd) hsub
      simpa using this
    refine ⟨kVal_do hr (kExt_i rfl (kIf_t ?_))⟩
    have hgw : V.grownBy (ChangeMaps.setBlock w1 w.heap.size (.mapIter (some bm) clock ((ps.map (·.born)).toArray.push e.born) clock)) (some w.heap.size) := by
      refine ⟨?_, ?_, ?_, ?_, fun k hk hne => ?_⟩ <;> (rcases hw1 with rfl | rfl <;> first | rfl | skip)
      · simp [ChangeMaps.setBlock]
      · simp [ChangeMaps.setBlock]
      · have : w.heap.size ≠ k := fun ee => hne (by rw [ee])
        simp [ChangeMaps.setBlock, this]
      · have : w.heap.size ≠ k := fun ee => hne (by rw [ee])
        simp [ChangeMaps.setBlock, this]
        rfl
    have hob : (ChangeMaps.setBlock w1 w.heap.size (.mapIter (some bm) clock ((ps.map (·.born)).toArray.push e.born) clock)).heap[w.heap.size]? = some (.mapIter (some bm) clock ((ps.map (·.born)).toArray.push e.born) clock) := by
      have hlt : w.heap.size < V.heap.size := (Array.getElem?_eq_some_iff.1 hit).1
      rcases hw1 with rfl | rfl <;> simp [ChangeMaps.setBlock, hlt]
    have hS2 := hS.set 1 rfl (o' := .ob w.heap.size (.mapIter (some bm) clock ((ps.map (·.born)).toArray.push e.born) clock)) hgw ⟨Nat.le_refl _, hob⟩ (.inl rfl)
    clear hgw hob hr hit hbm
    generalize ChangeMaps.setBlock w1 w.heap.size (.mapIter (some bm) clock ((ps.map (·.born)).toArray.push e.born) clock) = W2 at hS2 ⊢
    have hS2 : St w [.row x te 1 l.length (l.map vI), .ob w.heap.size (.mapIter (some bm) clock ((ps.map (·.born)).toArray.push e.born) clock)] W2 := hS2
    have hbm2 : W2.heap[bm]? = some (.map es clock) := by rw [hS2.below.block bm hbl]; exact hb
    refine ⟨kVal_do (run_entry_at W2 w.heap.size bm clock _ es clock e (hS2.get 1 rfl).2 hbm2 hmem.1 hn) (kExt_0 ?_)⟩
    rw [hzk]
    have hrow : V.ownsRow w.heap.size te 1 x l.length (l.map vI) := hS.get 0 rfl
    have hx : ∃ a cap, x = .slice a l.length cap := by
      rcases hrow.2 with ⟨rfl, h0⟩ | ⟨b, cap, cur, rfl, _⟩
      · exact ⟨none, 0, by rw [h0]⟩
      · exact ⟨_, _, rfl⟩
    refine kApp1_st E hS2 0 rfl (v := vI z) rfl (by simp [Value.cells, Value.oneCell']) (by simp only [maxLen]; omega) (by omega) fun x' W3 hS3 => ?_
    have hS4 : St w [.row x' te 1 (l ++ [z]).length ((l ++ [z]).map vI), .ob w.heap.size (.mapIter (some bm) clock ((ps ++ [e]).map (·.born)).toArray clock)] W3 := by
      have e1 : (l ++ [z]).map vI = l.map vI ++ (vI z).cells.toList := by simp [vI, Value.cells]
      have e2 : ((ps ++ [e]).map (·.born)).toArray = (ps.map (·.born)).toArray.push e.born := by simp
      rw [e1, e2, List.length_append]
      exact hS3
    refine ⟨rfl, ⟨clock, x', ps ++ [e], l ++ [z], rfl, Nat.le_refl _, by simp [hpk, hzk], hsub, hnd, hS4⟩, ?_⟩
    obtain ⟨a, cap, rfl⟩ := hx
    have hrow3 : W3.ownsRow w.heap.size te 1 x' (l ++ [z]).length ((l ++ [z]).map vI) := hS4.get 0 rfl
    have hx' : ∃ a cap, x' = .slice a (l ++ [z]).length cap := by
      rcases hrow3.2 with ⟨rfl, h0⟩ | ⟨b, cap, cur, rfl, _⟩
      · simp at h0
      · exact ⟨_, _, rfl⟩
    obtain ⟨a', cap', rfl⟩ := hx'
    show es.toList.length - (l ++ [z]).length < es.toList.length - l.length
    rw [List.length_append, List.length_singleton]
    omega
end
end Go.L
namespace Go.L.Ev
open Go Go.RowKit
variable [Ext]
set_option linter.unusedSimpArgs false
set_option linter.unusedVariables false

noncomputable def keysK (es : List (RV × RV × Nat)) : (List Int → Bool) → Bool :=
  @List.rec (RV × RV × Nat) (fun _ => (List Int → Bool) → Bool) (fun κ => κ []) (fun en _ ih κ => rvInt en.1 fun k n => iff (ikEq k .i64) (ih fun l => κ (n :: l)) false) es
noncomputable def bornK (c : Nat) (es : List (RV × RV × Nat)) (κ : Bool) : Nat → Bool :=
  @List.rec (RV × RV × Nat) (fun _ => Nat → Bool) (fun _ => κ) (fun en _ ih lo => iff (Nat.ble lo en.2.2) (iff (Nat.blt en.2.2 c) (ih (Nat.succ en.2.2)) false) false) es
noncomputable def insK (a : Int) (l : List Int) : (List Int → Bool) → Bool :=
  @List.rec Int (fun _ => (List Int → Bool) → Bool) (fun κ => κ [a]) (fun b l ih κ => iff (iLt b a) (ih fun r => κ (b :: r)) (κ (a :: b :: l))) l
noncomputable def sortK (l : List Int) : (List Int → Bool) → Bool := @List.rec Int (fun _ => (List Int → Bool) → Bool) (fun κ => κ []) (fun a _ ih κ => ih fun r => insK a r κ) l
noncomputable def rvsK (l : List Int) : (Nat → List RV → Bool) → Bool := @List.rec Int (fun _ => (Nat → List RV → Bool) → Bool) (fun κ => κ 0 []) (fun a _ ih κ => ih fun n r => natF (Nat.succ n) fun n => κ n (.int .i64 a :: r)) l
/-- A map's keys, sorted, in a row of their own. -/
noncomputable def orcSK (te : TypeId) : List RV → Hp → K → Bool := fun args h k => iff (lenIs args 1) (nthK args 0 fun m => rvMap m fun i => obMap h i fun c es => bornK c es (keysK es fun l => sortK l fun s => rvsK s fun n rs =>
  iff (Nat.ble 1 n) (iff (Nat.ble n 1000) (push (.row te 1 n rs) h fun j h' => k (.slc j 0 0 n) h') false) false) 0) false
theorem keysK_inv : ∀ {es : List (RV × RV × Nat)} {κ : List Int → Bool}, keysK es κ = true → ∃ l, κ l = true ∧ l.length = es.length ∧ ∀ δ m, decE δ es = some m → m.map (·.key) = l.map vI
  | [], κ, h => ⟨[], h, rfl, fun δ m hm => by simp [decE] at hm; subst hm; rfl⟩
  | (kv, v, j) :: es, κ, h => by
    obtain ⟨k, n, e, h1⟩ := rvInt_inv (show rvInt kv (fun k n => iff (ikEq k .i64) (keysK es fun l => κ (n :: l)) false) = true from h)
    obtain ⟨e2, h2⟩ := iff_t h1
    cases ikEq_inv e2
    obtain ⟨l, h3, h4, h5⟩ := keysK_inv h2
    refine ⟨n :: l, h3, by simp [h4], fun δ m hm => ?_⟩
    obtain ⟨x, y, m', q1, q2, q3, rfl⟩ := decE_cons_inv hm
    rw [e] at q1
    rw [List.map_cons, List.map_cons, h5 δ m' q3, dec_int q1]
theorem bornK_inv {c : Nat} {κ : Bool} : ∀ {es : List (RV × RV × Nat)} {lo : Nat}, bornK c es κ lo = true → κ = true ∧ ∀ δ m, decE δ es = some m → (m.map (·.born)).Pairwise (· < ·) ∧ ∀ x ∈ m, lo ≤ x.born ∧ x.born < c
  | [], lo, h => ⟨h, fun δ m hm => by simp [decE] at hm; subst hm; simp⟩
  | (kv, v, j) :: es, lo, h => by
    obtain ⟨e1, h1⟩ := iff_t (show iff (Nat.ble lo j) (iff (Nat.blt j c) (bornK c es κ (Nat.succ j)) false) false = true from h)
    obtain ⟨e2, h2⟩ := iff_t h1
    have e1 := Nat.le_of_ble_eq_true e1
    have e2 : j < c := by simpa [Nat.blt_eq] using e2
    obtain ⟨h3, h4⟩ := bornK_inv h2
    refine ⟨h3, fun δ m hm => ?_⟩
    obtain ⟨x, y, m', q1, q2, q3, rfl⟩ := decE_cons_inv hm
    obtain ⟨g1, g2⟩ := h4 δ m' q3
    refine ⟨?_, fun z hz => ?_⟩
    · rw [List.map_cons, List.pairwise_cons]
      refine ⟨fun b hb => ?_, g1⟩
      obtain ⟨p, hp, rfl⟩ := List.mem_map.1 hb
      have := (g2 p hp).1
      exact this
    · rcases List.mem_cons.1 hz with rfl | hz
      · exact ⟨e1, e2⟩
      · have := g2 z hz
        exact ⟨by omega, this.2⟩
theorem insK_inv {a : Int} : ∀ {l : List Int} {κ : List Int → Bool}, insK a l κ = true → κ (insI a l) = true
  | [], κ, h => h
  | b :: l, κ, h => by
    have h : iff (iLt b a) (insK a l fun r => κ (b :: r)) (κ (a :: b :: l)) = true := h
    rw [iLt_eq] at h
    unfold insI
    rcases iff_inv h with ⟨e, h1⟩ | ⟨e, h1⟩
    · rw [if_pos (of_decide_eq_true e)]; exact insK_inv h1
    · rw [if_neg (of_decide_eq_false e)]; exact h1
theorem sortK_inv : ∀ {l : List Int} {κ : List Int → Bool}, sortK l κ = true → κ (sortI l) = true
  | [], κ, h => h
  | a :: l, κ, h => insK_inv (sortK_inv (show sortK l (fun r => insK a r κ) = true from h))
theorem rvsK_inv : ∀ {l : List Int} {κ : Nat → List RV → Bool}, rvsK l κ = true → ∃ rs, κ l.length rs = true ∧ ∀ δ, decL δ rs = some (l.map vI)
  | [], κ, h => ⟨[], h, fun δ => decL_nil⟩
  | a :: l, κ, h => by
    obtain ⟨rs, h1, h2⟩ := rvsK_inv (show rvsK l (fun n r => natF (Nat.succ n) fun n => κ n (.int .i64 a :: r)) = true from h)
    rw [natF_eq] at h1
    exact ⟨_, h1, fun δ => decL_cons (by simp [dec]) (h2 δ)⟩
theorem orcSK_ok {P : Program} {f : FuncId} {te : TypeId} (hen : ∀ args w, (callFunc f args).run P w = .ok (.enter f args) w)
    (hC : ∀ (w : World) (bm : Nat) (es : Array MapEntry) (clock : Nat) (ks : List Int), w.heap[bm]? = some (.map es clock) → es.toList.map (·.key) = ks.map vI → (es.toList.map (·.born)).Nodup → (∀ x ∈ es.toList, x.born < clock) → 0 < ks.length → ks.length ≤ 1000 →
      Calls P f #[.map (some bm)] w fun en W => ∃ x, en = .returned x ∧ Go.L.St w [.row x te 1 ks.length ((sortI ks).map vI)] W)
    (args : List RV) (h : Hp) (k : K) (hk : orcSK te args h k = true) : ∃ r h', k r h' = true ∧ FnR P f args h r h' := by
  obtain ⟨hl, h1⟩ := iff_t hk
  obtain ⟨m, hm, h2⟩ := nthK_inv h1
  have hl := lenIs_inv hl
  have ha : args = [m] := by
    match args, hl, hm with
    | [x], _, hm => simpa using hm
  subst ha
  obtain ⟨i, rfl, h3⟩ := rvMap_inv h2
  obtain ⟨c, es, hat, h4⟩ := obMap_inv h3
  obtain ⟨h5, hborn⟩ := bornK_inv h4
  obtain ⟨l, h6, hlen, hkeys⟩ := keysK_inv h5
  have h7 := sortK_inv h6
  obtain ⟨rs, h8, hrs⟩ := rvsK_inv h7
  obtain ⟨e1, h9⟩ := iff_t h8
  obtain ⟨e2, h10⟩ := iff_t h9
  obtain ⟨h', h11, a1, a2, a3⟩ := push_inv h10
  have hsl : (sortI l).length = l.length := (sortI_perm l).length_eq
  rw [hsl] at e1 e2 a2 h11
  have e1 : 0 < l.length := Nat.le_of_ble_eq_true e1
  have e2 : l.length ≤ 1000 := Nat.le_of_ble_eq_true e2
  refine ⟨_, h', h11, Grow.push a1 a3, hen, fun F δ W vs hR hvs => ?_⟩
  obtain ⟨x, l1, hx, hl1, rfl⟩ := decL_cons_inv hvs
  rw [decL_nil] at hl1; cases hl1
  obtain ⟨b, cp, hb, hO⟩ := hR.get hat (by simp)
  obtain ⟨_, en, hen', hh⟩ := hO
  simp only [dec, hb, Option.map_some, Option.some.injEq] at hx
  subst hx
  obtain ⟨g1, g2⟩ := hborn δ en hen'
  refine (hC W b en.toArray c l hh (by simpa using hkeys δ en hen') (g1.imp fun h => Nat.ne_of_lt h) (fun z hz => (g2 z (by simpa using hz)).2) e1 e2).mono ?_
  rintro e W' ⟨x, rfl, hS⟩
  have hrow : W'.ownsRow W.heap.size te 1 x l.length ((sortI l).map vI) := hS.get 0 rfl
  rcases hrow.2 with ⟨_, hz⟩ | ⟨g, cap, cur, rfl, hbase, hcur, hcap, hmax, hsz, htk⟩
  · omega
  have hfn := (hR.fresh h.next (Nat.le_refl _)).1
  refine ⟨δ.put h.next g cap, .slice (some ⟨g, 0, none⟩) l.length cap, Ex.put hfn, by simp [dec, Pl.put_self, hcap], rfl, ?_⟩
  refine hR.push (grown_of_below hS.below) hbase a1 a2 a3 ⟨hR.ok.new hbase, _, hrs _, hrow.1, .inr ⟨g, cap, cur, rfl, Nat.zero_le _, hcur, hcap, hmax, hsz, htk⟩⟩
end Go.L.Ev
namespace Go.L.Ev
open Go Go.RowKit
variable [Ext]
set_option linter.unusedVariables false
set_option linter.unusedSimpArgs false

/-! ### Texts joined -/
noncomputable def catS (m i n j : Nat) (κ : Nat → Nat → Bool) : Bool := natF (Nat.add (Nat.mod m (Nat.pow 256 i)) (Nat.mul n (Nat.pow 256 i))) fun q => natF (Nat.add i j) fun r => κ q r
noncomputable def tailK (sm sn : Nat) (l : List RV) : Nat → Nat → (Nat → Nat → Bool) → Bool :=
  @List.rec RV (fun _ => Nat → Nat → (Nat → Nat → Bool) → Bool) (fun m n κ => κ m n) (fun v _ ih m n κ => rvStr v fun a b => catS m n sm sn fun m n => catS m n a b fun m n => ih m n κ) l
noncomputable def notAsl (v : RV) : Bool :=
  @RV.rec (fun _ => Bool) (fun _ => PUnit) (fun _ => false) (fun _ _ => false) (fun _ _ => false) (fun _ _ => false) false (fun _ _ => false) (fun _ _ _ _ => true) (fun _ _ _ _ => false) true false (fun _ => false) (fun _ _ _ _ _ => false) false (fun _ _ _ => false) false (fun _ _ => false) (fun _ _ => false) (fun _ _ _ _ _ => false) (fun _ => false) false PUnit.unit (fun _ _ _ _ => PUnit.unit) v
noncomputable def orcJoin : List RV → Hp → K → Bool := fun args h k => iff (lenIs args 2) (nthK args 0 fun v => nthK args 1 fun s => iff (notAsl v) (rvStr s fun sm sn => iff (Nat.ble sn 1000) (slCells h 1 v fun c l => iff (Nat.ble c 1000000)
  (@List.rec RV (fun _ => Bool) (k (.str 0 0) h) (fun x tl _ => rvStr x fun a b => tailK sm sn tl a b fun m n => iff (Nat.ble n 1000000000000) (k (.str m n) h) false) l) false) false) false) false
end Go.L.Ev
namespace Go.L
open Go Go.RowKit
theorem Own.hold {base : Nat} {W W' : World} {o : Own} (h : o.holds base W) (hb : ∀ k, o.blk = some k → W'.heap[k]? = W.heap[k]?) : o.holds base W' := by
  cases o with
  | bx b t cs => exact ⟨h.1, by rw [hb b rfl]; exact h.2⟩
  | row x e sz n xs =>
    refine ⟨h.1, ?_⟩
    rcases h.2 with h | ⟨g, cap, cur, rfl, h1, h2, h3⟩
    · exact .inl h
    · exact .inr ⟨g, cap, cur, rfl, h1, by rw [hb g rfl]; exact h2, h3⟩
  | ob b o => exact ⟨h.1, by rw [hb b rfl]; exact h.2⟩
theorem own_ge {W : World} {base b n cp : Nat} {e : TypeId} {sz : Nat} {xs : List Value} (h : W.ownsRow base e sz (.slice (some ⟨b, 0, none⟩) n cp) n xs) : base ≤ b ∧ b < W.heap.size ∧ n ≤ cp := by
  rcases h.2 with ⟨h, _⟩ | ⟨g, cap, cur, h, h1, h2, h3, _⟩
  · cases h
  · cases h; exact ⟨h1, (Array.getElem?_eq_some_iff.1 h2).1, h3⟩
theorem own_base {W : World} {a base b n cp : Nat} {e : TypeId} {sz : Nat} {xs : List Value} (h : W.ownsRow a e sz (.slice (some ⟨b, 0, none⟩) n cp) n xs) (hb : base ≤ b) : W.ownsRow base e sz (.slice (some ⟨b, 0, none⟩) n cp) n xs := by
  refine ⟨h.1, ?_⟩
  rcases h.2 with ⟨h, _⟩ | ⟨g, cap, cur, h, h1, h2⟩
  · cases h
  · cases h; exact .inr ⟨_, _, cur, rfl, hb, h2⟩
namespace Ev
variable [Ext]
set_option linter.unusedVariables false
set_option linter.unusedSimpArgs false

/-- What an evaluation finds, among what a walk holds: rows. -/
structure Emb (L : List Own) (H : Hp) (δ : Pl) (pos : Nat → Nat) : Prop where
  at_ : ∀ i, H.at i ≠ .no → ∃ b cp e sz n cs vs, H.at i = .row e sz n cs ∧ L[pos i]? = some (.row (.slice (some ⟨b, 0, none⟩) n cp) e sz n vs) ∧ δ i = some (b, cp) ∧ decL δ cs = some vs
  inj : ∀ i j, H.at i ≠ .no → H.at j ≠ .no → pos i = pos j → i = j
def Emb.keep (H : Hp) (δ : Pl) (b : Nat) : Prop := ¬ ∃ i c, H.at i ≠ .no ∧ δ i = some (b, c)
section
variable {P : Program} {w0 w : World} {L : List Own} {H : Hp} {δ : Pl} {pos : Nat → Nat}
theorem Emb.rel (E : Emb L H δ pos) (hS : Go.L.St w0 L w) (hf : ∀ i, H.next ≤ i → δ i = none ∧ H.at i = .no) (hx : Ext.ok w (Emb.keep H δ)) : Rel ⟨w, Emb.keep H δ, hx⟩ δ H w := by
  refine ⟨⟨⟨rfl, rfl, rfl, Nat.le_refl _, fun _ _ _ => rfl⟩, fun i hi => ?_, fun i j b c b' c' hi hj hij hb hb' => ?_⟩, hf⟩
  · obtain ⟨b, cp, e, sz, n, cs, vs, h1, h2, h3, h4⟩ := E.at_ i hi
    refine ⟨b, cp, h3, ?_⟩
    rw [h1]
    refine ⟨fun _ hk => hk ⟨i, cp, hi, h3⟩, vs, h4, ?_⟩
    exact ownsRow_rebase (show w.ownsRow w0.heap.size e sz (.slice (some ⟨b, 0, none⟩) n cp) n vs from hS.get (pos i) h2) (Nat.zero_le _)
  · obtain ⟨b1, cp, e, sz, n, cs, vs, h1, h2, h3, h4⟩ := E.at_ i hi
    obtain ⟨b2, cp', e', sz', n', cs', vs', k1, k2, k3, k4⟩ := E.at_ j hj
    rw [hb] at h3; cases h3
    rw [hb'] at k3; cases k3
    have hp : pos i ≠ pos j := fun e => hij (E.inj i j hi hj e)
    rcases hS.apart _ _ _ _ h2 k2 hp with h | h
    · cases h
    · exact fun e => h (by rw [e]; rfl)
/-- Behind such a call what the walk holds stands, if the rows read as before. -/
theorem Emb.back (E : Emb L H δ pos) (hS : Go.L.St w0 L w) (hx : Ext.ok w (Emb.keep H δ)) {h' : Hp} {δ' : Pl} {W : World} (hX : Ex H δ δ') (hlt : ∀ i, H.at i ≠ .no → i < H.next) (hsame : ∀ i, H.at i ≠ .no → h'.at i = H.at i) (hR : Rel ⟨w, Emb.keep H δ, hx⟩ δ' h' W) : Go.L.St w0 L W := by
  have kept : ∀ b, b < w.heap.size → Emb.keep H δ b → W.heap[b]? = w.heap[b]? := fun b h1 h2 => hR.ok.block b h1 h2
  have hold : ∀ o ∈ L, o.holds w0.heap.size W := fun o ho => by
    obtain ⟨j, hj⟩ := List.mem_iff_getElem?.1 ho
    by_cases hp : ∃ i, H.at i ≠ .no ∧ pos i = j
    · obtain ⟨i, hi, rfl⟩ := hp
      obtain ⟨b, cp, e, sz, n, cs, vs, h1, h2, h3, h4⟩ := E.at_ i hi
      rw [hj] at h2; cases h2
      obtain ⟨b', c', k1, k2⟩ := hR.own i (by rw [hsame i hi]; exact hi)
      rw [hX.old i (hlt i hi), h3] at k1; cases k1
      rw [hsame i hi, h1] at k2
      obtain ⟨_, vs', k3, k4⟩ := k2
      rw [decL_mono hX.le _ _ h4] at k3; cases k3
      exact own_base k4 (own_ge (show w.ownsRow w0.heap.size e sz (.slice (some ⟨b, 0, none⟩) n cp) n vs from hS.get (pos i) hj)).1
    · refine Own.hold (hS.all o ho) fun k hk => kept k (Own.lt (hS.all o ho) k hk).2 ?_
      rintro ⟨i, c, hi, hb⟩
      obtain ⟨b, cp, e, sz, n, cs, vs, h1, h2, h3, h4⟩ := E.at_ i hi
      rw [hb] at h3; cases h3
      rcases hS.apart _ _ _ _ hj h2 (fun e => hp ⟨i, hi, e.symm⟩) with h | h
      · rw [hk] at h; cases h
      · exact h (by rw [hk]; rfl)
  refine ⟨⟨hR.ok.os.trans hS.below.os, hR.ok.tape.trans hS.below.tape, hR.ok.output.trans hS.below.output, Nat.le_trans hS.below.size hR.ok.size, fun k hk => ?_⟩, hold, hS.apart⟩
  rw [kept k (Nat.lt_of_lt_of_le hk hS.size) ?_]
  · exact hS.below.block k hk
  · rintro ⟨i, c, hi, hb⟩
    obtain ⟨b, cp, e, sz, n, cs, vs, h1, h2, h3, h4⟩ := E.at_ i hi
    rw [hb] at h3; cases h3
    have := (own_ge (show w.ownsRow w0.heap.size e sz (.slice (some ⟨k, 0, none⟩) n _) n vs from hS.get (pos i) h2)).1
    omega
/-- A row that the call has made. -/
theorem Emb.made (E : Emb L H δ pos) (hS : Go.L.St w0 L w) (hx : Ext.ok w (Emb.keep H δ)) {h' : Hp} {δ' : Pl} {W : World} (hX : Ex H δ δ') (hlt : ∀ i, H.at i ≠ .no → i < H.next) (hsame : ∀ i, H.at i ≠ .no → h'.at i = H.at i) (hR : Rel ⟨w, Emb.keep H δ, hx⟩ δ' h' W)
    {j b c n : Nat} {e : TypeId} {sz : Nat} {cs : List RV} (hj : h'.at j = .row e sz n cs) (hn : H.at j = .no) (hb : δ' j = some (b, c)) : ∃ vs, decL δ' cs = some vs ∧ Go.L.St w0 (.row (.slice (some ⟨b, 0, none⟩) n c) e sz n vs :: L) W := by
  have hS' := E.back hS hx hX hlt hsame hR
  obtain ⟨b', c', k1, k2⟩ := hR.own j (by rw [hj]; simp)
  rw [hb] at k1; cases k1
  rw [hj] at k2
  obtain ⟨hfr, vs, k3, k4⟩ := k2
  refine ⟨vs, k3, ?_⟩
  have hnew : w.heap.size ≤ b := by
    rcases Nat.lt_or_ge b w.heap.size with h | h
    · exfalso
      apply hfr h
      rintro ⟨i, c', hi, hbi⟩
      have hne : i ≠ j := fun e => by rw [e] at hi; exact hi hn
      exact hR.apart i j b c' b c (by rw [hsame i hi]; exact hi) (by rw [hj]; simp) hne (hX.le _ _ hbi) hb rfl
    · exact h
  refine Go.L.St.front (hS'.adopt (own_base k4 (Nat.le_trans hS.size hnew)) fun p hp => ?_)
  cases hpb : p.blk with
  | none => exact .inl rfl
  | some k =>
    refine .inr fun e => ?_
    have h1 := (Own.lt (hS.all p hp) k hpb).2
    have : k = b := by simpa [Own.blk, Value.ownBlock] using e
    omega
end
end Ev
end Go.L
namespace Go.L
open Go
set_option linter.unusedVariables false
set_option linter.unusedSimpArgs false

/-! ### What a function reaches, by a table -/
def leadsAt (P : Program) (f : Nat) : List FuncId := (P.funcs[f]?).elim [] P.leadsTo
noncomputable def bitAt (b f : Nat) : Bool := Nat.beq (Nat.land (Nat.shiftRight b f) 1) 1
noncomputable def closK (T : Ev.Tr (List Nat)) (n : Nat) : List Nat → Nat → List Nat → (List Nat → Bool) → Bool :=
  @Nat.rec (fun _ => List Nat → Nat → List Nat → (List Nat → Bool) → Bool) (fun _ _ _ _ => false)
    (fun _ ih todo b seen κ => @List.rec Nat (fun _ => Bool) (κ seen) (fun f rest _ => Ev.iff (bitAt b f) (ih rest b seen κ)
      (T.getK [] f fun l => Ev.appK l rest fun t => Ev.natF (Nat.lor b (Nat.shiftLeft 1 f)) fun b' => ih t b' (f :: seen) κ)) todo) n
theorem bitAt_eq (b f : Nat) : bitAt b f = b.testBit f := by
  unfold bitAt
  show Nat.beq ((b >>> f) &&& 1) 1 = _
  rw [Nat.and_one_is_mod, Nat.shiftRight_eq_div_pow, Nat.testBit_eq_decide_div_mod_eq]
  rw [Bool.eq_iff_iff, Nat.beq_eq, decide_eq_true_eq]
theorem bitAt_set (b f x : Nat) : bitAt (Nat.lor b (Nat.shiftLeft 1 f)) x = (bitAt b x || (f == x)) := by
  rw [bitAt_eq, bitAt_eq]
  show (b ||| 1 <<< f).testBit x = _
  rw [Nat.testBit_or, Nat.one_shiftLeft, Nat.testBit_two_pow]
  rfl
theorem closK_inv {P : Program} {T : Ev.Tr (List Nat)} (hT : ∀ f, leadsAt P f = T.get [] f) : ∀ (n : Nat) (todo : List Nat) (b : Nat) (seen : List Nat) (κ : List Nat → Bool), closK T n todo b seen κ = true →
    (∀ f, bitAt b f = seen.contains f) → ∃ out, κ out = true ∧ ∀ m, n ≤ m → P.closureVia m todo seen = out.reverse
  | 0, _, _, _, _, h, _ => absurd (show false = true from h) (by decide)
  | n + 1, [], b, seen, κ, h, _ => ⟨seen, h, fun m hm => by
      obtain ⟨k, rfl⟩ := Nat.exists_eq_succ_of_ne_zero (show m ≠ 0 by omega)
      rfl⟩
  | n + 1, f :: rest, b, seen, κ, h, hb => by
    have h : Ev.iff (bitAt b f) (closK T n rest b seen κ) (T.getK [] f fun l => Ev.appK l rest fun t => Ev.natF (Nat.lor b (Nat.shiftLeft 1 f)) fun b' => closK T n t b' (f :: seen) κ) = true := h
    rcases Ev.iff_inv h with ⟨e, h1⟩ | ⟨e, h1⟩
    · obtain ⟨out, h2, h3⟩ := closK_inv hT n rest b seen κ h1 hb
      refine ⟨out, h2, fun m hm => ?_⟩
      obtain ⟨k, rfl⟩ := Nat.exists_eq_succ_of_ne_zero (show m ≠ 0 by omega)
      show (if seen.contains f then P.closureVia k rest seen else _) = _
      rw [← hb f, e, if_pos rfl]
      exact h3 k (by omega)
    · rw [Ev.getK_eq, Ev.appK_eq, Ev.natF_eq] at h1
      obtain ⟨out, h2, h3⟩ := closK_inv hT n _ _ (f :: seen) κ h1 fun x => by
        rw [bitAt_set, hb x, List.contains_cons, Bool.or_comm]
        congr 1
        rw [Bool.eq_iff_iff, beq_iff_eq, beq_iff_eq]; exact eq_comm
      refine ⟨out, h2, fun m hm => ?_⟩
      obtain ⟨k, rfl⟩ := Nat.exists_eq_succ_of_ne_zero (show m ≠ 0 by omega)
      show (if seen.contains f then _ else P.closureVia k (leadsAt P f ++ rest) (f :: seen)) = _
      rw [← hb f, e, if_neg (by simp), hT f]
      exact h3 k (by omega)
theorem sum_leads (P : Program) : (P.funcs.toList.map fun g => (P.leadsTo g).length + 1).sum = ((List.range P.funcs.size).map fun i => (leadsAt P i).length + 1).sum := by
  congr 1
  apply List.ext_getElem
  · simp
  · intro i h1 h2
    simp at h1
    simp [leadsAt, h1]
theorem closure_of {P : Program} {T : Ev.Tr (List Nat)} (hT : ∀ f, leadsAt P f = T.get [] f) {n f N : Nat} {out : List Nat} (hN : P.funcs.size = N) (hk : closK T n [f] 0 [] (fun o => o == out) = true)
    (hn : n ≤ 1 + ((List.range N).map fun i => (T.get [] i).length + 1).sum) : P.closure f = out.reverse := by
  obtain ⟨o, h1, h2⟩ := closK_inv hT n [f] 0 [] _ hk fun x => by rw [bitAt_eq]; simp
  have h1 := beq_iff_eq.1 h1
  subst h1
  unfold Program.closure
  refine h2 _ ?_
  rw [sum_leads, hN]
  simp only [hT]
  exact hn
/-- The table's facts, by parts. -/
def leadsB (P : Program) (L : List (List Nat)) (k n : Nat) : Bool := (List.range' k n).all fun i => (leadsAt P i) == (L[i]?).getD []
theorem leadsB_at {P : Program} {L : List (List Nat)} {k n : Nat} (h : leadsB P L k n = true) {i : Nat} (h1 : k ≤ i) (h2 : i < k + n) : leadsAt P i = (L[i]?).getD [] :=
  beq_iff_eq.1 (List.all_eq_true.1 h i (List.mem_range'_1.2 ⟨h1, h2⟩))
theorem table_of {P : Program} {L : List (List Nat)} {N : Nat} (hN : P.funcs.size = N) (hL : L.length = N) (h : ∀ i, i < N → leadsAt P i = (L[i]?).getD []) (f : Nat) : leadsAt P f = (L[f]?).getD [] := by
  by_cases hf : f < N
  · exact h f hf
  · rw [List.getElem?_eq_none (by omega)]
    simp [leadsAt, Array.getElem?_eq_none (show P.funcs.size ≤ f by omega)]
end Go.L
namespace Go.L
theorem evens_len {α : Type} : ∀ l : List α, (Ev.evens l).length ≤ l.length
  | [] => Nat.le_refl _
  | [a] => Nat.le_refl _
  | a :: b :: l => by have := evens_len l; simp [Ev.evens]; omega
theorem odds_len {α : Type} : ∀ l : List α, (Ev.odds l).length ≤ l.length
  | [] => Nat.le_refl _
  | [a] => Nat.zero_le _
  | a :: b :: l => by have := odds_len l; simp [Ev.odds]; omega
/-- A list's tree, with nothing for what is not there. -/
theorem tr_ofL (L : List (List Nat)) (n i : Nat) (hn : L.length ≤ n) :
    (@Ev.Tr.rec (Option (List Nat)) (fun _ => Ev.Tr (List Nat)) .lf (fun _ v _ l r => .nd l (v.getD []) r) (Ev.Tr.ofL n L)).get [] i = (L[i]?).getD [] := by
  induction n generalizing L i with
  | zero =>
    have : L = [] := List.eq_nil_of_length_eq_zero (by omega)
    subst this; rfl
  | succ n ih =>
    cases L with
    | nil => rfl
    | cons a l =>
      show (Ev.Tr.nd (@Ev.Tr.rec (Option (List Nat)) (fun _ => Ev.Tr (List Nat)) .lf (fun _ v _ l r => .nd l (v.getD []) r) (Ev.Tr.ofL n (Ev.evens l))) ((some a).getD []) (@Ev.Tr.rec (Option (List Nat)) (fun _ => Ev.Tr (List Nat)) .lf (fun _ v _ l r => .nd l (v.getD []) r) (Ev.Tr.ofL n (Ev.odds l)))).get [] i = _
      rw [Ev.Tr.get_nd]
      cases i with
      | zero => rfl
      | succ m =>
        simp only
        have hl : l.length ≤ n := by simpa using hn
        by_cases hm : m % 2 = 0
        · rw [if_pos hm, ih _ _ (Nat.le_trans (evens_len l) hl), Ev.evens_get, show 2 * (m / 2) = m by omega]; rfl
        · rw [if_neg hm, ih _ _ (Nat.le_trans (odds_len l) hl), Ev.odds_get, show 2 * (m / 2) + 1 = m by omega]; rfl
end Go.L
