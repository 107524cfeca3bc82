/- An evaluation of the translation's functions, shown sound: no condition. -/
import Derived.Test.YtnmefofmegfliaaGreatDoorA2
import Derived.Test.YtnmefofmegfliaaGreatDoorA1
set_option linter.unusedVariables false
set_option linter.unusedSimpArgs false
set_option linter.unusedSectionVars false
namespace Go.L.Ev
open Go Go.RowKit

/-! ### Trees -/
inductive Tr (α : Type) where
  | lf
  | nd (l : Tr α) (v : α) (r : Tr α)

/-- What stands at a place ('z': nothing does). -/
noncomputable def Tr.get {α : Type} (z : α) (t : Tr α) : Nat → α :=
  Tr.rec (fun _ => z) (fun _ v _ gl gr n => Nat.rec v (fun m _ => Bool.rec (gr (Nat.div m 2)) (gl (Nat.div m 2)) (Nat.beq (Nat.mod m 2) 0)) n) t
/-- Another thing at a place that is there (or is the next of a leaf); 'k' goes on with the tree. -/
noncomputable def Tr.set {α : Type} (x : α) (t : Tr α) : Nat → (Tr α → Bool) → Bool :=
  Tr.rec (fun n k => Nat.rec (k (.nd .lf x .lf)) (fun _ _ => false) n)
    (fun l v r sl sr n k => Nat.rec (k (.nd l x r)) (fun m _ => Bool.rec (sr (Nat.div m 2) (fun r' => k (.nd l v r'))) (sl (Nat.div m 2) (fun l' => k (.nd l' v r))) (Nat.beq (Nat.mod m 2) 0)) n) t

theorem Tr.get_lf {α : Type} (z : α) (n : Nat) : (Tr.lf : Tr α).get z n = z := rfl
theorem beq0 {n : Nat} (h : n = 0) : Nat.beq n 0 = true := by rw [h]; rfl
theorem bne0 {n : Nat} (h : ¬ n = 0) : Nat.beq n 0 = false := by
  cases n with
  | zero => exact absurd rfl h
  | succ m => rfl
theorem Tr.get_nd {α : Type} (z : α) (l r : Tr α) (v : α) (n : Nat) : (Tr.nd l v r).get z n = match n with | 0 => v | m + 1 => if m % 2 = 0 then l.get z (m / 2) else r.get z (m / 2) := by
  cases n with
  | zero => rfl
  | succ m =>
    show (Bool.rec (motive := fun _ => α) (r.get z (m / 2)) (l.get z (m / 2)) (Nat.beq (m % 2) 0) : α) = _
    by_cases h : m % 2 = 0
    · rw [beq0 h]; simp [h]
    · rw [bne0 h]; simp [h]
theorem Tr.set_inv {α : Type} (z : α) (x : α) (t : Tr α) : ∀ (n : Nat) (k : Tr α → Bool), t.set x n k = true →
    ∃ t', k t' = true ∧ t'.get z n = x ∧ ∀ j, j ≠ n → t'.get z j = t.get z j := by
  induction t with
  | lf =>
    intro n k h
    cases n with
    | zero =>
      refine ⟨_, h, rfl, fun j hj => ?_⟩
      obtain ⟨m, rfl⟩ := Nat.exists_eq_succ_of_ne_zero hj
      simp [Tr.get_nd, Tr.get_lf]
    | succ m => exact absurd h (by simp [Tr.set])
  | nd l v r ihl ihr =>
    intro n k h
    cases n with
    | zero =>
      refine ⟨_, h, rfl, fun j hj => ?_⟩
      obtain ⟨m, rfl⟩ := Nat.exists_eq_succ_of_ne_zero hj
      simp [Tr.get_nd]
    | succ m =>
      have h : (Bool.rec (motive := fun _ => Bool) (r.set x (m / 2) (fun r' => k (.nd l v r'))) (l.set x (m / 2) (fun l' => k (.nd l' v r))) (Nat.beq (m % 2) 0) : Bool) = true := h
      by_cases hm : m % 2 = 0
      · rw [beq0 hm] at h
        obtain ⟨l', hk, hg, ho⟩ := ihl _ _ h
        refine ⟨_, hk, by simp [Tr.get_nd, hm, hg], fun j hj => ?_⟩
        cases j with
        | zero => simp [Tr.get_nd]
        | succ i =>
          simp only [Tr.get_nd]
          by_cases hi : i % 2 = 0
          · simp only [hi, if_true]; exact ho _ (by omega)
          · simp [hi]
      · rw [bne0 hm] at h
        obtain ⟨r', hk, hg, ho⟩ := ihr _ _ h
        refine ⟨_, hk, by simp [Tr.get_nd, hm, hg], fun j hj => ?_⟩
        cases j with
        | zero => simp [Tr.get_nd]
        | succ i =>
          simp only [Tr.get_nd]
          by_cases hi : i % 2 = 0
          · simp [hi]
          · simp only [hi, if_false]; exact ho _ (by omega)

/-- A list as a tree. -/
def evens {α : Type} : List α → List α
  | [] => []
  | [a] => [a]
  | a :: _ :: l => a :: evens l
def odds {α : Type} : List α → List α
  | [] => []
  | [_] => []
  | _ :: b :: l => b :: odds l
/-- A list as a tree ('n': at least as many as it has). -/
def Tr.ofL {α : Type} : Nat → List α → Tr (Option α)
  | 0, _ => .lf
  | _ + 1, [] => .lf
  | n + 1, a :: l => .nd (Tr.ofL n (evens l)) (some a) (Tr.ofL n (odds l))
theorem evens_get {α : Type} : ∀ (l : List α) (i : Nat), (evens l)[i]? = l[2 * i]?
  | [], i => by simp [evens]
  | [a], i => by cases i <;> simp [evens]
  | a :: b :: l, i => by
    cases i with
    | zero => simp [evens]
    | succ i => simp only [evens, List.getElem?_cons_succ, show 2 * (i + 1) = 2 * i + 1 + 1 by omega]; exact evens_get l i
theorem odds_get {α : Type} : ∀ (l : List α) (i : Nat), (odds l)[i]? = l[2 * i + 1]?
  | [], i => by simp [odds]
  | [a], i => by simp [odds]
  | a :: b :: l, i => by
    cases i with
    | zero => simp [odds]
    | succ i => simp only [odds, List.getElem?_cons_succ, show 2 * (i + 1) = 2 * i + 1 + 1 by omega]; exact odds_get l i
/-- What a tree of a list tells, the list has. -/
theorem Tr.ofL_get {α : Type} : ∀ (n : Nat) (l : List α) (i : Nat) (a : α), (Tr.ofL n l).get none i = some a → l[i]? = some a
  | 0, _, _, _, h => by simp [Tr.ofL, Tr.get_lf] at h
  | _ + 1, [], _, _, h => by simp [Tr.ofL, Tr.get_lf] at h
  | n + 1, b :: l, i, a, h => by
    simp only [Tr.ofL, Tr.get_nd] at h
    cases i with
    | zero => exact h
    | succ m =>
      simp only at h
      rw [List.getElem?_cons_succ]
      by_cases hm : m % 2 = 0
      · simp only [hm, if_true] at h
        have := Tr.ofL_get n _ _ _ h
        rw [evens_get] at this
        rwa [show 2 * (m / 2) = m by omega] at this
      · simp only [hm, if_false] at h
        have := Tr.ofL_get n _ _ _ h
        rw [odds_get] at this
        rwa [show 2 * (m / 2) + 1 = m by omega] at this
/-- A tree of so many layers, the same everywhere. -/
def Tr.full {α : Type} (z : α) : Nat → Tr α
  | 0 => .lf
  | n + 1 => .nd (Tr.full z n) z (Tr.full z n)
theorem Tr.full_get {α : Type} (z : α) : ∀ (n i : Nat), (Tr.full z n).get z i = z
  | 0, _ => rfl
  | n + 1, i => by
    simp only [Tr.full, Tr.get_nd]
    cases i with
    | zero => rfl
    | succ m => simp only; split <;> exact Tr.full_get z n _
end Go.L.Ev
namespace Go.L.Ev
open Go Go.RowKit

/-! ### Values of an evaluation: what is made is told by its number, texts by numbers -/
inductive RV where
  | bool (b : Bool)
  | int (k : IntKind) (n : Int)
  | str (n len : Nat)
  | ptr (i off : Nat)
  | nilp
  | glob (g off : Nat)
  | slc (i off ce len : Nat)
  | asl (i off len cap : Nat)
  | nils
  | nilm
  | map (i : Nat)
  | fn (f : Fn) (first caps : List RV)
  | nilf
  | ifc (t : TypeId) (v : RV)
  | nili
  | agg (l : List RV)
  | tup (l : List RV)
  | emp (i off ce dl sz : Nat)
  | yld (i : Nat)
  | skp

def bytesOf : Nat → Nat → List UInt8
  | 0, _ => []
  | k + 1, n => UInt8.ofNat (n % 256) :: bytesOf k (n / 256)
def strOf (n len : Nat) : ByteArray := ⟨(bytesOf len n).toArray⟩
/-- Texts that an evaluation does not look into: each is told by a number, with no length; which of these it is, the places tell. -/
def txO (k : Nat) : ByteArray := strOf (116 + 256 * (97 + k % 70 % 26 + 256 * (97 + k % 70 / 26))) 3
def strW (n len : Nat) : Prop := len = 0 → n = 0

/-- What lies outside of an evaluation: blocks that are named, and what is known of a world in which so much stays. -/
class Ext where
  blk : Nat → Nat
  ok : World → (Nat → Prop) → Prop
  mono : ∀ {w w' : World} {kp kp' : Nat → Prop}, ok w kp → w.heap.size ≤ w'.heap.size → (∀ b, b < w.heap.size → kp b → w'.heap[b]? = w.heap[b]? ∧ kp' b) → ok w' kp'
def gnum [Ext] (g : Nat) : Nat := if g < 1000000 then g else Ext.blk g
variable [Ext]
abbrev Pl := Nat → Option (Nat × Nat)
def Pl.le (δ δ' : Pl) : Prop := ∀ i p, δ i = some p → δ' i = some p
theorem Pl.le_refl (δ : Pl) : Pl.le δ δ := fun _ _ h => h
theorem Pl.le_trans {a b c : Pl} (h : Pl.le a b) (k : Pl.le b c) : Pl.le a c := fun i p hp => k i p (h i p hp)

mutual
def dec (δ : Pl) : RV → Option Value
  | .bool b => some (.bool b)
  | .int k n => some (.int k n)
  | .str n len => if len = 0 ∧ n ≠ 0 then (δ n).map fun p => .string (txO p.1) else some (.string (strOf n len))
  | .ptr i off => (δ i).map fun p => .pointer (some ⟨p.1, off, none⟩)
  | .nilp => some (.pointer none)
  | .glob g off => some (.pointer (some ⟨gnum g, off, none⟩))
  | .slc i off ce len => (δ i).bind fun p => if ce + len ≤ p.2 then some (.slice (some ⟨p.1, off, none⟩) len (p.2 - ce)) else none
  | .asl i off len cap => (δ i).map fun p => .slice (some ⟨p.1, off, none⟩) len cap
  | .nils => some (.slice none 0 0)
  | .nilm => some (.map none)
  | .map i => (δ i).map fun p => .map (some p.1)
  | .fn f a b => match decL δ a, decL δ b with
    | some x, some y => some (.func f x.toArray y.toArray)
    | _, _ => none
  | .nilf => some .nilFunc
  | .ifc t v => match dec δ v with
    | some x => some (.iface t x)
    | none => none
  | .nili => some .nilIface
  | .agg l => match decL δ l with
    | some x => some (.agg x.toArray)
    | none => none
  | .tup l => match decL δ l with
    | some x => some (.tuple x.toArray)
    | none => none
  | .emp i off ce dl sz => (δ i).map fun p => if p.2 - ce = dl then .slice (some ⟨p.1, off, none⟩) 0 0 else .slice (some ⟨p.1, off + dl * sz, none⟩) 0 (p.2 - ce - dl)
  | .yld i => (δ i).map fun p => .func (.yield p.1) #[] #[]
  | .skp => some undef
def decL (δ : Pl) : List RV → Option (List Value)
  | [] => some []
  | v :: l => match dec δ v, decL δ l with
    | some x, some y => some (x :: y)
    | _, _ => none
end

mutual
theorem dec_mono {δ δ' : Pl} (h : Pl.le δ δ') : ∀ (v : RV) (x : Value), dec δ v = some x → dec δ' v = some x
  | .bool _, _, e => by simpa [dec] using e
  | .int _ _, _, e => by simpa [dec] using e
  | .str n len, x, e => by
    simp only [dec] at e ⊢
    split
    · rename_i hc
      rw [if_pos hc, Option.map_eq_some_iff] at e
      obtain ⟨p, hp, hx⟩ := e
      rw [Option.map_eq_some_iff]
      exact ⟨p, h _ _ hp, hx⟩
    · rename_i hc
      rwa [if_neg hc] at e
  | .ptr i off, x, e => by
    simp only [dec, Option.map_eq_some_iff] at e ⊢
    obtain ⟨p, hp, hx⟩ := e
    exact ⟨p, h _ _ hp, hx⟩
  | .nilp, _, e => by simpa [dec] using e
  | .glob _ _, _, e => by simpa [dec] using e
  | .slc i off ce len, x, e => by
    simp only [dec, Option.bind_eq_some_iff] at e ⊢
    obtain ⟨p, hp, hx⟩ := e
    exact ⟨p, h _ _ hp, hx⟩
  | .asl i off len cap, x, e => by
    simp only [dec, Option.map_eq_some_iff] at e ⊢
    obtain ⟨p, hp, hx⟩ := e
    exact ⟨p, h _ _ hp, hx⟩
  | .nils, _, e => by simpa [dec] using e
  | .nilm, _, e => by simpa [dec] using e
  | .map i, x, e => by
    simp only [dec, Option.map_eq_some_iff] at e ⊢
    obtain ⟨p, hp, hx⟩ := e
    exact ⟨p, h _ _ hp, hx⟩
  | .fn f a b, x, e => by
    simp only [dec] at e ⊢
    cases ha : decL δ a with
    | none => simp [ha] at e
    | some y =>
      cases hb : decL δ b with
      | none => simp [ha, hb] at e
      | some z =>
        rw [ha, hb] at e
        rw [decL_mono h a y ha, decL_mono h b z hb]; exact e
  | .nilf, _, e => by simpa [dec] using e
  | .ifc t v, x, e => by
    simp only [dec] at e ⊢
    cases hv : dec δ v with
    | none => simp [hv] at e
    | some y => rw [hv] at e; rw [dec_mono h v y hv]; exact e
  | .nili, _, e => by simpa [dec] using e
  | .agg l, x, e => by
    simp only [dec] at e ⊢
    cases hl : decL δ l with
    | none => simp [hl] at e
    | some y => rw [hl] at e; rw [decL_mono h l y hl]; exact e
  | .tup l, x, e => by
    simp only [dec] at e ⊢
    cases hl : decL δ l with
    | none => simp [hl] at e
    | some y => rw [hl] at e; rw [decL_mono h l y hl]; exact e
  | .emp i off ce dl sz, x, e => by
    simp only [dec, Option.map_eq_some_iff] at e ⊢
    obtain ⟨p, hp, hx⟩ := e
    exact ⟨p, h _ _ hp, hx⟩
  | .yld i, x, e => by
    simp only [dec, Option.map_eq_some_iff] at e ⊢
    obtain ⟨p, hp, hx⟩ := e
    exact ⟨p, h _ _ hp, hx⟩
  | .skp, _, e => by simpa [dec] using e
theorem decL_mono {δ δ' : Pl} (h : Pl.le δ δ') : ∀ (l : List RV) (x : List Value), decL δ l = some x → decL δ' l = some x
  | [], _, e => by simpa [decL] using e
  | v :: l, x, e => by
    simp only [decL] at e ⊢
    cases hv : dec δ v with
    | none => simp [hv] at e
    | some y =>
      cases hl : decL δ l with
      | none => simp [hv, hl] at e
      | some z =>
        rw [hv, hl] at e
        rw [dec_mono h v y hv, decL_mono h l z hl]; exact e
end

theorem str_dec {δ : Pl} {n len : Nat} (hw : strW n len) : dec δ (.str n len) = some (.string (strOf n len)) := by
  simp only [dec]
  exact if_neg fun c => c.2 (hw c.1)
theorem dec_str_any {δ : Pl} {n len : Nat} {a : Value} (h : dec δ (.str n len) = some a) : ∃ s, a = .string s := by
  simp only [dec] at h
  split at h
  · obtain ⟨p, _, hx⟩ := Option.map_eq_some_iff.1 h
    exact ⟨_, hx.symm⟩
  · exact ⟨_, (Option.some.inj h).symm⟩
theorem dec_slc {δ : Pl} {i off ce len : Nat} {a : Value} (h : dec δ (.slc i off ce len) = some a) : ∃ b c, δ i = some (b, c) ∧ ce + len ≤ c ∧ a = .slice (some ⟨b, off, none⟩) len (c - ce) := by
  simp only [dec, Option.bind_eq_some_iff] at h
  obtain ⟨⟨b, c⟩, hp, h⟩ := h
  split at h
  · rename_i hle; exact ⟨b, c, hp, hle, (Option.some.inj h).symm⟩
  · cases h
theorem slc_dec {δ : Pl} {i off ce len b c : Nat} (h : δ i = some (b, c)) (hle : ce + len ≤ c) : dec δ (.slc i off ce len) = some (.slice (some ⟨b, off, none⟩) len (c - ce)) := by
  simp only [dec, h, Option.bind_some]
  rw [if_pos hle]
theorem decL_nil {δ : Pl} : decL δ [] = some [] := by simp [decL]
theorem decL_cons {δ : Pl} {v : RV} {l : List RV} {x : Value} {y : List Value} (h : dec δ v = some x) (k : decL δ l = some y) : decL δ (v :: l) = some (x :: y) := by simp [decL, h, k]
theorem decL_cons_inv {δ : Pl} {v : RV} {l : List RV} {z : List Value} (h : decL δ (v :: l) = some z) : ∃ x y, dec δ v = some x ∧ decL δ l = some y ∧ z = x :: y := by
  simp only [decL] at h
  cases hv : dec δ v with
  | none => simp [hv] at h
  | some x =>
    cases hl : decL δ l with
    | none => simp [hv, hl] at h
    | some y => rw [hv, hl] at h; exact ⟨x, y, rfl, rfl, (Option.some.inj h).symm⟩
theorem decL_len {δ : Pl} : ∀ {l : List RV} {y : List Value}, decL δ l = some y → y.length = l.length
  | [], y, h => by rw [decL_nil] at h; cases h; rfl
  | v :: l, z, h => by
    obtain ⟨x, y, _, hl, rfl⟩ := decL_cons_inv h
    simp [decL_len hl]
theorem decL_get {δ : Pl} : ∀ {l : List RV} {y : List Value} {i : Nat} {v : RV}, decL δ l = some y → l[i]? = some v → ∃ x, y[i]? = some x ∧ dec δ v = some x
  | [], _, i, v, _, h => by simp at h
  | u :: l, z, i, v, h, hi => by
    obtain ⟨x, y, hv, hl, rfl⟩ := decL_cons_inv h
    cases i with
    | zero => cases hi; exact ⟨x, rfl, hv⟩
    | succ i =>
      obtain ⟨w, h1, h2⟩ := decL_get (i := i) hl (by simpa using hi)
      exact ⟨w, by simpa using h1, h2⟩
theorem decL_append {δ : Pl} : ∀ {l m : List RV} {y z : List Value}, decL δ l = some y → decL δ m = some z → decL δ (l ++ m) = some (y ++ z)
  | [], m, y, z, h, k => by rw [decL_nil] at h; cases h; exact k
  | v :: l, m, u, z, h, k => by
    obtain ⟨x, y, hv, hl, rfl⟩ := decL_cons_inv h
    exact decL_cons hv (decL_append hl k)
theorem decL_take {δ : Pl} : ∀ (n : Nat) {l : List RV} {y : List Value}, decL δ l = some y → decL δ (l.take n) = some (y.take n)
  | 0, _, _, _ => by simp [decL_nil]
  | n + 1, [], y, h => by rw [decL_nil] at h; cases h; simp [decL_nil]
  | n + 1, v :: l, u, h => by
    obtain ⟨x, y, hv, hl, rfl⟩ := decL_cons_inv h
    exact decL_cons hv (decL_take n hl)
theorem decL_drop {δ : Pl} : ∀ (n : Nat) {l : List RV} {y : List Value}, decL δ l = some y → decL δ (l.drop n) = some (y.drop n)
  | 0, _, _, h => by simpa using h
  | n + 1, [], y, h => by rw [decL_nil] at h; cases h; simp [decL_nil]
  | n + 1, v :: l, u, h => by
    obtain ⟨x, y, hv, hl, rfl⟩ := decL_cons_inv h
    simpa using decL_drop n hl
theorem decL_set {δ : Pl} : ∀ (n : Nat) {l : List RV} {y : List Value} {v : RV} {x : Value}, decL δ l = some y → dec δ v = some x → decL δ (l.set n v) = some (y.set n x)
  | _, [], y, v, x, h, _ => by rw [decL_nil] at h; cases h; simp [decL_nil]
  | 0, u :: l, z, v, x, h, hv => by
    obtain ⟨x', y, _, hl, rfl⟩ := decL_cons_inv h
    exact decL_cons hv hl
  | n + 1, u :: l, z, v, x, h, hv => by
    obtain ⟨x', y, hu, hl, rfl⟩ := decL_cons_inv h
    exact decL_cons hu (decL_set n hl hv)
end Go.L.Ev
namespace Go.L.Ev
open Go Go.RowKit
variable [Ext]

abbrev VE := Tr RV
noncomputable abbrev VE.at (e : VE) (t : Nat) : RV := Tr.get (.tup []) e t
def EnvR (δ : Pl) (e : VE) (E : Env) : Prop := ∀ t, dec δ (e.at t) = some (E t)
theorem EnvR.mono {δ δ' : Pl} {e : VE} {E : Env} (h : EnvR δ e E) (k : Pl.le δ δ') : EnvR δ' e E := fun t => dec_mono k _ _ (h t)

/-! ### What an evaluation has made -/
inductive Ob where
  | no
  | bx (t : TypeId) (cs : List RV)
  | row (e : TypeId) (sz n : Nat) (cs : List RV)
  | mp (clock : Nat) (es : List (RV × RV × Nat))
  | it (n len pos : Nat)
  | mit (m : Option Nat) (since : Nat) (seen : List Nat) (last : Nat)
  | df
  | lp (st : LoopState) (pend : Option Code) (n : Nat) (e : VE) (ps : Array Tmp) (asn body : Code) (D : Nat)

def decE (δ : Pl) : List (RV × RV × Nat) → Option (List MapEntry)
  | [] => some []
  | (k, v, j) :: l => match dec δ k, dec δ v, decE δ l with
    | some x, some y, some z => some (⟨x, y, j⟩ :: z)
    | _, _, _ => none
theorem decE_mono {δ δ' : Pl} (h : Pl.le δ δ') : ∀ (l : List (RV × RV × Nat)) (x : List MapEntry), decE δ l = some x → decE δ' l = some x
  | [], _, e => by simpa [decE] using e
  | (k, v, j) :: l, x, e => by
    simp only [decE] at e ⊢
    cases hk : dec δ k with
    | none => simp [hk] at e
    | some a =>
      cases hv : dec δ v with
      | none => simp [hk, hv] at e
      | some b =>
        cases hl : decE δ l with
        | none => simp [hk, hv, hl] at e
        | some c =>
          rw [hk, hv, hl] at e
          rw [dec_mono h k a hk, dec_mono h v b hv, decE_mono h l c hl]; exact e

/-- What must stay: the blocks of a world that are named. -/
structure Frm where
  w0 : World
  keep : Nat → Prop
  inv : Ext.ok w0 keep
def Frm.free (F : Frm) (b : Nat) : Prop := b < F.w0.heap.size → ¬ F.keep b
structure Frm.ok (F : Frm) (W : World) : Prop where
  os : W.os = F.w0.os
  tape : W.tape = F.w0.tape
  output : W.output = F.w0.output
  size : F.w0.heap.size ≤ W.heap.size
  block : ∀ b, b < F.w0.heap.size → F.keep b → W.heap[b]? = F.w0.heap[b]?
theorem Frm.ok.grown {F : Frm} {W W' : World} {row : Option Nat} (h : F.ok W) (hg : W.grownBy W' row) (hr : ∀ b, row = some b → F.free b) : F.ok W' :=
  ⟨hg.os.trans h.os, hg.tape.trans h.tape, hg.output.trans h.output, Nat.le_trans h.size hg.size, fun b hb hk => by
    rw [hg.block b (Nat.lt_of_lt_of_le hb h.size) (fun e => hr b e.symm hb hk)]; exact h.block b hb hk⟩

def ObR (F : Frm) (δ : Pl) (b c : Nat) (W : World) : Ob → Prop
  | .no => True
  | .bx t cs => F.free b ∧ ∃ vs rest fr, decL δ cs = some vs ∧ W.heap[b]? = some (.cells (vs ++ rest).toArray t fr) ∧ ∀ i, i < vs.length → ¬ (fr.1 ≤ i ∧ i < fr.2)
  | .row e sz n cs => F.free b ∧ ∃ vs, decL δ cs = some vs ∧ W.ownsRow 0 e sz (.slice (some ⟨b, 0, none⟩) n c) n vs
  | .mp clock es => F.free b ∧ ∃ l, decE δ es = some l ∧ W.heap[b]? = some (.map l.toArray clock)
  | .it n len pos => F.free b ∧ W.heap[b]? = some (.stringIter (strOf n len) pos)
  | .mit m since seen last => F.free b ∧ ∃ mb, (match m with | none => mb = none | some i => ∃ p, δ i = some p ∧ mb = some p.1) ∧ W.heap[b]? = some (.mapIter mb since seen.toArray last)
  | .df => F.free b ∧ W.heap[b]? = some (.deferred (some []))
  | .lp st pend n e ps asn body D => F.free b ∧ ∃ fn E Db Dc, EnvR δ e E ∧ EnvOk n E ∧ δ D = some (Db, Dc) ∧
      W.heap[b]? = some (.loop { state := st, pending := pend, fn := fn, tmps := (act n E []).tmps, params := ps, assign := asn, body := body, defers := Db })

theorem ObR.free {F : Frm} {δ : Pl} {b c : Nat} {W : World} {o : Ob} (h : ObR F δ b c W o) (ho : o ≠ .no) : F.free b := by
  cases o <;> first | exact absurd rfl ho | exact h.1
theorem ObR.lt {F : Frm} {δ : Pl} {b c : Nat} {W : World} {o : Ob} (h : ObR F δ b c W o) (ho : o ≠ .no) : b < W.heap.size := by
  cases o with
  | no => exact absurd rfl ho
  | bx _ _ => obtain ⟨_, _, _, _, _, h, _⟩ := h; exact (Array.getElem?_eq_some_iff.1 h).1
  | row _ _ _ _ => obtain ⟨_, _, _, h⟩ := h; exact (h.lt b rfl).2
  | mp _ _ => obtain ⟨_, _, _, h⟩ := h; exact (Array.getElem?_eq_some_iff.1 h).1
  | it _ _ _ => exact (Array.getElem?_eq_some_iff.1 h.2).1
  | mit _ _ _ _ => obtain ⟨_, _, _, h⟩ := h; exact (Array.getElem?_eq_some_iff.1 h).1
  | df => exact (Array.getElem?_eq_some_iff.1 h.2).1
  | lp _ _ _ _ _ _ _ _ => obtain ⟨_, _, _, _, _, _, _, _, h⟩ := h; exact (Array.getElem?_eq_some_iff.1 h).1
/-- The thing's block is as it was; another frame leaves the block free too. -/
theorem ObR.keep {F F' : Frm} {δ δ' : Pl} {b c : Nat} {W W' : World} {o : Ob} (h : ObR F δ b c W o) (hf : F.free b → F'.free b) (hd : Pl.le δ δ') (hb : W'.heap[b]? = W.heap[b]?) : ObR F' δ' b c W' o := by
  cases o with
  | no => trivial
  | bx t cs => obtain ⟨h0, vs, rest, fr, h1, h2, h3⟩ := h; exact ⟨hf h0, vs, rest, fr, decL_mono hd _ _ h1, by rw [hb]; exact h2, h3⟩
  | row e sz n cs =>
    obtain ⟨h0, vs, h1, h2⟩ := h
    refine ⟨hf h0, vs, decL_mono hd _ _ h1, h2.1, ?_⟩
    rcases h2.2 with ⟨hv, _⟩ | ⟨g, cap, cur, hv, hg, hgg, rest⟩
    · cases hv
    · refine .inr ⟨g, cap, cur, hv, hg, ?_, rest⟩
      have : b = g := by cases hv; rfl
      rw [← this] at hgg ⊢; rw [hb]; exact hgg
  | mp cl es => obtain ⟨h0, vs, h1, h2⟩ := h; exact ⟨hf h0, vs, decE_mono hd _ _ h1, by rw [hb]; exact h2⟩
  | it n len pos => exact ⟨hf h.1, by rw [hb]; exact h.2⟩
  | mit m since seen last =>
    obtain ⟨h0, mb, h1, h2⟩ := h
    refine ⟨hf h0, mb, ?_, by rw [hb]; exact h2⟩
    cases m with
    | none => exact h1
    | some i => obtain ⟨p, hp, e⟩ := h1; exact ⟨p, hd _ _ hp, e⟩
  | df => exact ⟨hf h.1, by rw [hb]; exact h.2⟩
  | lp st pend n e ps asn body D =>
    obtain ⟨h0, fn, E, Db, Dc, h1, h2, h3, h4⟩ := h
    exact ⟨hf h0, fn, E, Db, Dc, h1.mono hd, h2, hd _ _ h3, by rw [hb]; exact h4⟩

structure Hp where
  next : Nat
  t : Tr Ob
noncomputable abbrev Hp.at (h : Hp) (i : Nat) : Ob := Tr.get .no h.t i

structure RelA (F : Frm) (δ : Pl) (h : Hp) (W : World) : Prop where
  ok : F.ok W
  own : ∀ i, h.at i ≠ .no → ∃ b c, δ i = some (b, c) ∧ ObR F δ b c W (h.at i)
  apart : ∀ i j b c b' c', h.at i ≠ .no → h.at j ≠ .no → i ≠ j → δ i = some (b, c) → δ j = some (b', c') → b ≠ b'

structure Rel (F : Frm) (δ : Pl) (h : Hp) (W : World) : Prop extends RelA F δ h W where
  fresh : ∀ i, h.next ≤ i → δ i = none ∧ h.at i = .no

theorem RelA.get {F : Frm} {δ : Pl} {h : Hp} {W : World} (H : RelA F δ h W) {i : Nat} {o : Ob} (ho : h.at i = o) (hn : o ≠ .no) : ∃ b c, δ i = some (b, c) ∧ ObR F δ b c W o := by
  subst ho; exact H.own i hn
theorem RelA.lt {F : Frm} {δ : Pl} {h : Hp} {W : World} (H : RelA F δ h W) {i : Nat} (hn : h.at i ≠ .no) {b c : Nat} (hb : δ i = some (b, c)) : F.free b ∧ b < W.heap.size := by
  obtain ⟨b', c', hb', ho⟩ := H.own i hn
  rw [hb] at hb'; cases hb'
  exact ⟨ho.free hn, ho.lt hn⟩
theorem Frm.ok.new {F : Frm} {W : World} (h : F.ok W) {b : Nat} (hb : W.heap.size ≤ b) : F.free b := fun hlt => absurd hlt (by have := h.size; omega)

/-- One thing changes or comes (place 's'); others stay or are let go. -/
theorem Rel.step {F : Frm} {δ δ' : Pl} {h h' : Hp} {W W' : World} (H : Rel F δ h W) (row : Option Nat) (hg : W.grownBy W' row) (hle : Pl.le δ δ') (hnx : ∀ i, h'.next ≤ i → δ' i = none ∧ h'.at i = .no)
    (s : Nat) (hold : ∀ j, j ≠ s → (h'.at j = h.at j ∨ h'.at j = .no))
    (hrow : ∀ b0, row = some b0 → F.free b0 ∧ ∀ j, j ≠ s → h'.at j ≠ .no → ∀ b c, δ j = some (b, c) → b ≠ b0)
    (hs : h'.at s = .no ∨ ∃ b1 c1, δ' s = some (b1, c1) ∧ ObR F δ' b1 c1 W' (h'.at s) ∧ ∀ j, j ≠ s → h'.at j ≠ .no → ∀ b c, δ j = some (b, c) → b ≠ b1) : Rel F δ' h' W' := by
  have old : ∀ j, j ≠ s → h'.at j ≠ .no → h'.at j = h.at j ∧ ∃ b c, δ j = some (b, c) ∧ δ' j = some (b, c) ∧ ObR F δ' b c W' (h'.at j) := by
    intro j hj hn
    have he : h'.at j = h.at j := (hold j hj).resolve_right hn
    rw [he] at hn
    obtain ⟨b, c, hb, ho⟩ := H.own j hn
    refine ⟨he, b, c, hb, hle _ _ hb, ?_⟩
    rw [he]
    refine ho.keep id hle (hg.block b (ho.lt hn) fun hr => ?_)
    exact (hrow b hr.symm).2 j hj (by rw [he]; exact hn) b c hb rfl
  refine ⟨⟨H.ok.grown hg fun k hk => (hrow k hk).1, fun i hn => ?_, fun i j b c b' c' hi hj hij hbi hbj => ?_⟩, hnx⟩
  · by_cases his : i = s
    · subst his
      rcases hs with hs | ⟨b1, c1, h1, h2, _⟩
      · exact absurd hs hn
      · exact ⟨b1, c1, h1, h2⟩
    · obtain ⟨_, b, c, _, h2, h3⟩ := old i his hn
      exact ⟨b, c, h2, h3⟩
  · by_cases his : i = s
    · subst his
      rcases hs with hs | ⟨b1, c1, h1, _, h3⟩
      · exact absurd hs hi
      · obtain ⟨_, bj, cj, k1, k2, _⟩ := old j (Ne.symm hij) hj
        rw [h1] at hbi; cases hbi
        rw [k2] at hbj; cases hbj
        exact (h3 j (Ne.symm hij) hj _ _ k1).symm
    · obtain ⟨hei, bi, ci, k1, k2, _⟩ := old i his hi
      rw [k2] at hbi; cases hbi
      by_cases hjs : j = s
      · subst hjs
        rcases hs with hs | ⟨b1, c1, h1, _, h3⟩
        · exact absurd hs hj
        · rw [h1] at hbj; cases hbj
          exact h3 i hij hi _ _ k1
      · obtain ⟨hej, bj, cj, m1, m2, _⟩ := old j hjs hj
        rw [m2] at hbj; cases hbj
        exact H.apart i j _ _ _ _ (by rw [← hei]; exact hi) (by rw [← hej]; exact hj) hij k1 m1

/-- The world grows; nothing of ours changes. -/
theorem RelA.grow {F : Frm} {δ : Pl} {h : Hp} {W W' : World} (H : RelA F δ h W) (hg : W.grownBy W' none) : RelA F δ h W' :=
  ⟨H.ok.grown hg (by simp), fun i hn => by
    obtain ⟨b, c, hb, ho⟩ := H.own i hn
    exact ⟨b, c, hb, ho.keep id (Pl.le_refl _) (hg.block b (ho.lt hn) (by simp))⟩, H.apart⟩
theorem RelA.drewN {F : Frm} {δ : Pl} {h : Hp} {W : World} (H : RelA F δ h W) (n : Nat) : RelA F δ h (W.drewN n) :=
  H.grow ⟨rfl, rfl, rfl, Nat.le_refl _, fun _ _ _ => rfl⟩
theorem Rel.drewN {F : Frm} {δ : Pl} {h : Hp} {W : World} (H : Rel F δ h W) (n : Nat) : Rel F δ h (W.drewN n) := ⟨H.toRelA.drewN n, H.fresh⟩
def Pl.put (δ : Pl) (i b c : Nat) : Pl := fun j => if j = i then some (b, c) else δ j
theorem Pl.le_put {δ : Pl} {i b c : Nat} (h : δ i = none) : Pl.le δ (δ.put i b c) := fun j p hp => by
  unfold Pl.put
  split
  · rename_i e; rw [e, h] at hp; cases hp
  · exact hp
theorem Pl.put_self {δ : Pl} {i b c : Nat} : δ.put i b c i = some (b, c) := by simp [Pl.put]
/-- Something new. -/
theorem Rel.push {F : Frm} {δ : Pl} {h h' : Hp} {W W' : World} (H : Rel F δ h W) (hg : W.grownBy W' none) {b c : Nat} {o : Ob} (hb : W.heap.size ≤ b) (hn : h'.next = h.next + 1) (hat : h'.at h.next = o)
    (hold : ∀ j, j ≠ h.next → h'.at j = h.at j) (ho : ObR F (δ.put h.next b c) b c W' o) : Rel F (δ.put h.next b c) h' W' := by
  have hf := H.fresh h.next (Nat.le_refl _)
  refine H.step none hg (Pl.le_put hf.1) (fun i hi => ?_) h.next (fun j hj => .inl (hold j hj)) (by simp) (.inr ⟨b, c, Pl.put_self, by rw [hat]; exact ho, fun j hj hnj b' c' hb' => ?_⟩)
  · rw [hn] at hi
    have := H.fresh i (by omega)
    have hne : i ≠ h.next := by omega
    refine ⟨by simp [Pl.put, hne, this.1], by rw [hold i hne]; exact this.2⟩
  · rw [hold j hj] at hnj
    have := (H.lt hnj hb').2
    omega
/-- One thing changes where it lies. -/
theorem Rel.put {F : Frm} {δ : Pl} {h h' : Hp} {W W' : World} (H : Rel F δ h W) {i b c : Nat} {o : Ob} (hi : h.at i ≠ .no) (hb : δ i = some (b, c)) (hg : W.grownBy W' (some b)) (hn : h'.next = h.next) (hat : h'.at i = o)
    (hold : ∀ j, j ≠ i → h'.at j = h.at j) (ho : ObR F δ b c W' o) : Rel F δ h' W' := by
  have hlt := H.lt hi hb
  refine H.step (some b) hg (Pl.le_refl _) (fun j hj => ?_) i (fun j hj => .inl (hold j hj)) (fun b0 h0 => ?_) (.inr ⟨b, c, hb, by rw [hat]; exact ho, fun j hj hnj b' c' hb' => ?_⟩)
  · rw [hn] at hj
    have := H.fresh j hj
    have hne : j ≠ i := fun e => hi (by rw [← e]; exact this.2)
    exact ⟨this.1, by rw [hold j hne]; exact this.2⟩
  · cases h0
    refine ⟨hlt.1, fun j hj hnj b' c' hb' => ?_⟩
    rw [hold j hj] at hnj
    exact H.apart j i _ _ _ _ hnj hi hj hb' hb
  · rw [hold j hj] at hnj
    exact H.apart j i _ _ _ _ hnj hi hj hb' hb
/-- A row is taken over by another one (which lies in its place or in a new one). -/
theorem Rel.move {F : Frm} {δ : Pl} {h h' : Hp} {W W' : World} (H : Rel F δ h W) {i b c b' c' : Nat} {o : Ob} (hi : h.at i ≠ .no) (hb : δ i = some (b, c)) (hg : W.grownBy W' (some b)) (hb' : b' = b ∨ W.heap.size ≤ b') (hn : h'.next = h.next + 1)
    (hat : h'.at h.next = o) (hno : h'.at i = .no) (hold : ∀ j, j ≠ i → j ≠ h.next → h'.at j = h.at j) (ho : ObR F (δ.put h.next b' c') b' c' W' o) : Rel F (δ.put h.next b' c') h' W' := by
  have hf := H.fresh h.next (Nat.le_refl _)
  have hlt := H.lt hi hb
  have hne : i ≠ h.next := fun e => hi (by rw [e]; exact hf.2)
  have key : ∀ j, j ≠ h.next → h'.at j ≠ .no → j ≠ i ∧ h.at j ≠ .no := fun j hj hnj => by
    have hji : j ≠ i := fun e => hnj (by rw [e]; exact hno)
    exact ⟨hji, by rw [← hold j hji hj]; exact hnj⟩
  refine H.step (some b) hg (Pl.le_put hf.1) (fun j hj => ?_) h.next (fun j hj => ?_) (fun b0 h0 => ?_) (.inr ⟨b', c', Pl.put_self, by rw [hat]; exact ho, fun j hj hnj b2 c2 hb2 => ?_⟩)
  · rw [hn] at hj
    have := H.fresh j (by omega)
    have h1 : j ≠ h.next := by omega
    have h2 : j ≠ i := fun e => hi (by rw [← e]; exact this.2)
    exact ⟨by simp [Pl.put, h1, this.1], by rw [hold j h2 h1]; exact this.2⟩
  · by_cases hji : j = i
    · rw [hji]; exact .inr hno
    · exact .inl (hold j hji hj)
  · cases h0
    refine ⟨hlt.1, fun j hj hnj b2 c2 hb2 => ?_⟩
    have := key j hj hnj
    exact H.apart j i _ _ _ _ this.2 hi this.1 hb2 hb
  · have hk := key j hj hnj
    rcases hb' with rfl | hb'
    · exact H.apart j i _ _ _ _ hk.2 hi hk.1 hb2 hb
    · have := (H.lt hk.2 hb2).2
      omega
/-- Things are let go. -/
theorem Rel.drop {F : Frm} {δ : Pl} {h h' : Hp} {W : World} (H : Rel F δ h W) (hn : h'.next = h.next) (hold : ∀ j, h'.at j = h.at j ∨ h'.at j = .no) : Rel F δ h' W := by
  have key : ∀ j, h'.at j ≠ .no → h'.at j = h.at j := fun j hj => (hold j).resolve_right hj
  refine ⟨⟨H.ok, fun i hi => ?_, fun i j b c b' c' hi hj => ?_⟩, fun i hi => ?_⟩
  rotate_left 2
  · rw [hn] at hi
    have := H.fresh i hi
    exact ⟨this.1, (hold i).elim (fun e => e.trans this.2) id⟩
  · have e := key i hi
    rw [e] at hi ⊢; exact H.own i hi
  · have e := key i hi
    have f := key j hj
    rw [e] at hi; rw [f] at hj; exact H.apart i j b c b' c' hi hj
/-- What is made is numbered onwards. -/
def Hp.fresh (h : Hp) : Prop := ∀ i, h.next ≤ i → h.at i = .no
structure Grow (h h' : Hp) : Prop where
  next : h.next ≤ h'.next
  fresh : h.fresh → h'.fresh
theorem Grow.refl (h : Hp) : Grow h h := ⟨Nat.le_refl _, id⟩
theorem Grow.trans {a b c : Hp} (h : Grow a b) (k : Grow b c) : Grow a c := ⟨Nat.le_trans h.next k.next, fun f => k.fresh (h.fresh f)⟩
theorem Grow.push {h h' : Hp} (hn : h'.next = h.next + 1) (hold : ∀ j, j ≠ h.next → h'.at j = h.at j) : Grow h h' :=
  ⟨by omega, fun f i hi => by rw [hold i (by omega)]; exact f i (by omega)⟩
theorem Grow.set {h h' : Hp} {i : Nat} (hi : h.at i ≠ .no) (hn : h'.next = h.next) (hold : ∀ j, j ≠ i → h'.at j = h.at j) : Grow h h' :=
  ⟨by omega, fun f j hj => by
    have hlt : i < h.next := by
      rcases Nat.lt_or_ge i h.next with h1 | h1
      · exact h1
      · exact absurd (f i h1) hi
    rw [hold j (by omega)]; exact f j (by omega)⟩
theorem Grow.less {h h' : Hp} (hn : h'.next = h.next) (hold : ∀ j, h'.at j = h.at j ∨ h'.at j = .no) : Grow h h' :=
  ⟨by omega, fun f j hj => (hold j).elim (fun e => by rw [e]; exact f j (by omega)) id⟩
/-- Old numbers stand where they stood. -/
structure Ex (h : Hp) (δ δ' : Pl) : Prop where
  le : Pl.le δ δ'
  old : ∀ i, i < h.next → δ' i = δ i
theorem Ex.refl (h : Hp) (δ : Pl) : Ex h δ δ := ⟨Pl.le_refl _, fun _ _ => rfl⟩
theorem Ex.trans {h h1 : Hp} {a b c : Pl} (g : h.next ≤ h1.next) (x : Ex h a b) (y : Ex h1 b c) : Ex h a c := ⟨Pl.le_trans x.le y.le, fun i hi => by rw [y.old i (by omega), x.old i hi]⟩
theorem Ex.put {h : Hp} {δ : Pl} {b c : Nat} (hf : δ h.next = none) : Ex h δ (δ.put h.next b c) := ⟨Pl.le_put hf, fun i hi => by simp [Pl.put, Nat.ne_of_lt hi]⟩
end Go.L.Ev
namespace Go.L.Ev
open Go Go.RowKit
noncomputable def rvYld (v : RV) : (Nat → Bool) → Bool :=
  @RV.rec (fun _ => (Nat → Bool) → Bool) (fun _ => PUnit)
    (fun _ _ => false)
    (fun _ _ _ => false)
    (fun _ _ _ => false)
    (fun _ _ _ => false)
    (fun _ => false)
    (fun _ _ _ => false)
    (fun _ _ _ _ _ => false)
    (fun _ _ _ _ _ => false)
    (fun _ => false)
    (fun _ => false)
    (fun _ _ => false)
    (fun _ _ _ _ _ _ => false)
    (fun _ => false)
    (fun _ _ _ _ => false)
    (fun _ => false)
    (fun _ _ _ => false)
    (fun _ _ _ => false)
    (fun _ _ _ _ _ _ => false)
    (fun a0 κ => κ a0)
    (fun _ => false)
    PUnit.unit (fun _ _ _ _ => PUnit.unit) v
theorem rvYld_inv {v : RV} {κ} (h : rvYld v κ = true) : ∃ a0, v = .yld a0 ∧ κ a0 = true := by
  cases v <;> first | exact ⟨_, rfl, h⟩ | exact absurd h (by simp [rvYld])
noncomputable def rvAsl (v : RV) : (Nat → Nat → Nat → Nat → Bool) → Bool :=
  @RV.rec (fun _ => (Nat → Nat → Nat → Nat → Bool) → Bool) (fun _ => PUnit)
    (fun _ _ => false)
    (fun _ _ _ => false)
    (fun _ _ _ => false)
    (fun _ _ _ => false)
    (fun _ => false)
    (fun _ _ _ => false)
    (fun _ _ _ _ _ => false)
    (fun a0 a1 a2 a3 κ => κ a0 a1 a2 a3)
    (fun _ => false)
    (fun _ => false)
    (fun _ _ => false)
    (fun _ _ _ _ _ _ => false)
    (fun _ => false)
    (fun _ _ _ _ => false)
    (fun _ => false)
    (fun _ _ _ => false)
    (fun _ _ _ => false)
    (fun _ _ _ _ _ _ => false)
    (fun _ _ => false)
    (fun _ => false)
    PUnit.unit (fun _ _ _ _ => PUnit.unit) v
theorem rvAsl_inv {v : RV} {κ} (h : rvAsl v κ = true) : ∃ a0 a1 a2 a3, v = .asl a0 a1 a2 a3 ∧ κ a0 a1 a2 a3 = true := by
  cases v <;> first | exact ⟨_, _, _, _, rfl, h⟩ | exact absurd h (by simp [rvAsl])
noncomputable def rvGlob (v : RV) : (Nat → Nat → Bool) → Bool :=
  @RV.rec (fun _ => (Nat → Nat → Bool) → Bool) (fun _ => PUnit)
    (fun _ _ => false)
    (fun _ _ _ => false)
    (fun _ _ _ => false)
    (fun _ _ _ => false)
    (fun _ => false)
    (fun a0 a1 κ => κ a0 a1)
    (fun _ _ _ _ _ => false)
    (fun _ _ _ _ _ => false)
    (fun _ => false)
    (fun _ => false)
    (fun _ _ => false)
    (fun _ _ _ _ _ _ => false)
    (fun _ => false)
    (fun _ _ _ _ => false)
    (fun _ => false)
    (fun _ _ _ => false)
    (fun _ _ _ => false)
    (fun _ _ _ _ _ _ => false)
    (fun _ _ => false)
    (fun _ => false)
    PUnit.unit (fun _ _ _ _ => PUnit.unit) v
theorem rvGlob_inv {v : RV} {κ} (h : rvGlob v κ = true) : ∃ a0 a1, v = .glob a0 a1 ∧ κ a0 a1 = true := by
  cases v <;> first | exact ⟨_, _, rfl, h⟩ | exact absurd h (by simp [rvGlob])
noncomputable def rvBool (v : RV) : (Bool → Bool) → Bool :=
  @RV.rec (fun _ => (Bool → Bool) → Bool) (fun _ => PUnit)
    (fun a0 κ => κ a0)
    (fun _ _ _ => false)
    (fun _ _ _ => false)
    (fun _ _ _ => false)
    (fun _ => false)
    (fun _ _ _ => false)
    (fun _ _ _ _ _ => false)
    (fun _ _ _ _ _ => false)
    (fun _ => false)
    (fun _ => false)
    (fun _ _ => false)
    (fun _ _ _ _ _ _ => false)
    (fun _ => false)
    (fun _ _ _ _ => false)
    (fun _ => false)
    (fun _ _ _ => false)
    (fun _ _ _ => false)
    (fun _ _ _ _ _ _ => false)
    (fun _ _ => false)
    (fun _ => false)
    PUnit.unit (fun _ _ _ _ => PUnit.unit) v
theorem rvBool_inv {v : RV} {κ} (h : rvBool v κ = true) : ∃ a0, v = .bool a0 ∧ κ a0 = true := by
  cases v <;> first | exact ⟨_, rfl, h⟩ | exact absurd h (by simp [rvBool])
noncomputable def rvInt (v : RV) : (IntKind → Int → Bool) → Bool :=
  @RV.rec (fun _ => (IntKind → Int → Bool) → Bool) (fun _ => PUnit)
    (fun _ _ => false)
    (fun a0 a1 κ => κ a0 a1)
    (fun _ _ _ => false)
    (fun _ _ _ => false)
    (fun _ => false)
    (fun _ _ _ => false)
    (fun _ _ _ _ _ => false)
    (fun _ _ _ _ _ => false)
    (fun _ => false)
    (fun _ => false)
    (fun _ _ => false)
    (fun _ _ _ _ _ _ => false)
    (fun _ => false)
    (fun _ _ _ _ => false)
    (fun _ => false)
    (fun _ _ _ => false)
    (fun _ _ _ => false)
    (fun _ _ _ _ _ _ => false)
    (fun _ _ => false)
    (fun _ => false)
    PUnit.unit (fun _ _ _ _ => PUnit.unit) v
theorem rvInt_inv {v : RV} {κ} (h : rvInt v κ = true) : ∃ a0 a1, v = .int a0 a1 ∧ κ a0 a1 = true := by
  cases v <;> first | exact ⟨_, _, rfl, h⟩ | exact absurd h (by simp [rvInt])
/-- A text that may be looked into. -/
noncomputable def strB (m n : Nat) : Bool := @Bool.rec (fun _ => Bool) true (Nat.beq m 0) (Nat.beq n 0)
theorem strB_w {m n : Nat} (h : strB m n = true) : strW m n := fun e => by
  subst e
  exact Nat.eq_of_beq_eq_true h
theorem boolRec_t {b x : Bool} (h : @Bool.rec (fun _ => Bool) false x b = true) : b = true ∧ x = true := by cases b <;> simp_all
noncomputable def rvStrQ (v : RV) : (Nat → Nat → Bool) → Bool :=
  @RV.rec (fun _ => (Nat → Nat → Bool) → Bool) (fun _ => PUnit)
    (fun _ _ => false)
    (fun _ _ _ => false)
    (fun a0 a1 κ => κ a0 a1)
    (fun _ _ _ => false)
    (fun _ => false)
    (fun _ _ _ => false)
    (fun _ _ _ _ _ => false)
    (fun _ _ _ _ _ => false)
    (fun _ => false)
    (fun _ => false)
    (fun _ _ => false)
    (fun _ _ _ _ _ _ => false)
    (fun _ => false)
    (fun _ _ _ _ => false)
    (fun _ => false)
    (fun _ _ _ => false)
    (fun _ _ _ => false)
    (fun _ _ _ _ _ _ => false)
    (fun _ _ => false)
    (fun _ => false)
    PUnit.unit (fun _ _ _ _ => PUnit.unit) v
theorem rvStrQ_inv {v : RV} {κ} (h : rvStrQ v κ = true) : ∃ a0 a1, v = .str a0 a1 ∧ κ a0 a1 = true := by
  cases v <;> first | exact ⟨_, _, rfl, h⟩ | exact absurd h (by simp [rvStrQ])
noncomputable def rvStr (v : RV) : (Nat → Nat → Bool) → Bool :=
  @RV.rec (fun _ => (Nat → Nat → Bool) → Bool) (fun _ => PUnit)
    (fun _ _ => false)
    (fun _ _ _ => false)
    (fun a0 a1 κ => @Bool.rec (fun _ => Bool) false (κ a0 a1) (strB a0 a1))
    (fun _ _ _ => false)
    (fun _ => false)
    (fun _ _ _ => false)
    (fun _ _ _ _ _ => false)
    (fun _ _ _ _ _ => false)
    (fun _ => false)
    (fun _ => false)
    (fun _ _ => false)
    (fun _ _ _ _ _ _ => false)
    (fun _ => false)
    (fun _ _ _ _ => false)
    (fun _ => false)
    (fun _ _ _ => false)
    (fun _ _ _ => false)
    (fun _ _ _ _ _ _ => false)
    (fun _ _ => false)
    (fun _ => false)
    PUnit.unit (fun _ _ _ _ => PUnit.unit) v
theorem rvStr_inv {v : RV} {κ} (h : rvStr v κ = true) : ∃ a0 a1, v = .str a0 a1 ∧ strW a0 a1 ∧ κ a0 a1 = true := by
  cases v <;> first | exact ⟨_, _, rfl, strB_w (boolRec_t h).1, (boolRec_t h).2⟩ | exact absurd h (by simp [rvStr])
noncomputable def rvPtr (v : RV) : (Nat → Nat → Bool) → Bool :=
  @RV.rec (fun _ => (Nat → Nat → Bool) → Bool) (fun _ => PUnit)
    (fun _ _ => false)
    (fun _ _ _ => false)
    (fun _ _ _ => false)
    (fun a0 a1 κ => κ a0 a1)
    (fun _ => false)
    (fun _ _ _ => false)
    (fun _ _ _ _ _ => false)
    (fun _ _ _ _ _ => false)
    (fun _ => false)
    (fun _ => false)
    (fun _ _ => false)
    (fun _ _ _ _ _ _ => false)
    (fun _ => false)
    (fun _ _ _ _ => false)
    (fun _ => false)
    (fun _ _ _ => false)
    (fun _ _ _ => false)
    (fun _ _ _ _ _ _ => false)
    (fun _ _ => false)
    (fun _ => false)
    PUnit.unit (fun _ _ _ _ => PUnit.unit) v
theorem rvPtr_inv {v : RV} {κ} (h : rvPtr v κ = true) : ∃ a0 a1, v = .ptr a0 a1 ∧ κ a0 a1 = true := by
  cases v <;> first | exact ⟨_, _, rfl, h⟩ | exact absurd h (by simp [rvPtr])
noncomputable def rvSlc (v : RV) : (Nat → Nat → Nat → Nat → Bool) → Bool :=
  @RV.rec (fun _ => (Nat → Nat → Nat → Nat → Bool) → Bool) (fun _ => PUnit)
    (fun _ _ => false)
    (fun _ _ _ => false)
    (fun _ _ _ => false)
    (fun _ _ _ => false)
    (fun _ => false)
    (fun _ _ _ => false)
    (fun a0 a1 a2 a3 κ => κ a0 a1 a2 a3)
    (fun _ _ _ _ _ => false)
    (fun _ => false)
    (fun _ => false)
    (fun _ _ => false)
    (fun _ _ _ _ _ _ => false)
    (fun _ => false)
    (fun _ _ _ _ => false)
    (fun _ => false)
    (fun _ _ _ => false)
    (fun _ _ _ => false)
    (fun _ _ _ _ _ _ => false)
    (fun _ _ => false)
    (fun _ => false)
    PUnit.unit (fun _ _ _ _ => PUnit.unit) v
theorem rvSlc_inv {v : RV} {κ} (h : rvSlc v κ = true) : ∃ a0 a1 a2 a3, v = .slc a0 a1 a2 a3 ∧ κ a0 a1 a2 a3 = true := by
  cases v <;> first | exact ⟨_, _, _, _, rfl, h⟩ | exact absurd h (by simp [rvSlc])
noncomputable def rvAgg (v : RV) : (List RV → Bool) → Bool :=
  @RV.rec (fun _ => (List RV → Bool) → Bool) (fun _ => PUnit)
    (fun _ _ => false)
    (fun _ _ _ => false)
    (fun _ _ _ => false)
    (fun _ _ _ => false)
    (fun _ => false)
    (fun _ _ _ => false)
    (fun _ _ _ _ _ => false)
    (fun _ _ _ _ _ => false)
    (fun _ => false)
    (fun _ => false)
    (fun _ _ => false)
    (fun _ _ _ _ _ _ => false)
    (fun _ => false)
    (fun _ _ _ _ => false)
    (fun _ => false)
    (fun a0 _ κ => κ a0)
    (fun _ _ _ => false)
    (fun _ _ _ _ _ _ => false)
    (fun _ _ => false)
    (fun _ => false)
    PUnit.unit (fun _ _ _ _ => PUnit.unit) v
theorem rvAgg_inv {v : RV} {κ} (h : rvAgg v κ = true) : ∃ a0, v = .agg a0 ∧ κ a0 = true := by
  cases v <;> first | exact ⟨_, rfl, h⟩ | exact absurd h (by simp [rvAgg])
noncomputable def rvTup (v : RV) : (List RV → Bool) → Bool :=
  @RV.rec (fun _ => (List RV → Bool) → Bool) (fun _ => PUnit)
    (fun _ _ => false)
    (fun _ _ _ => false)
    (fun _ _ _ => false)
    (fun _ _ _ => false)
    (fun _ => false)
    (fun _ _ _ => false)
    (fun _ _ _ _ _ => false)
    (fun _ _ _ _ _ => false)
    (fun _ => false)
    (fun _ => false)
    (fun _ _ => false)
    (fun _ _ _ _ _ _ => false)
    (fun _ => false)
    (fun _ _ _ _ => false)
    (fun _ => false)
    (fun _ _ _ => false)
    (fun a0 _ κ => κ a0)
    (fun _ _ _ _ _ _ => false)
    (fun _ _ => false)
    (fun _ => false)
    PUnit.unit (fun _ _ _ _ => PUnit.unit) v
theorem rvTup_inv {v : RV} {κ} (h : rvTup v κ = true) : ∃ a0, v = .tup a0 ∧ κ a0 = true := by
  cases v <;> first | exact ⟨_, rfl, h⟩ | exact absurd h (by simp [rvTup])
noncomputable def rvFn (v : RV) : (Fn → List RV → List RV → Bool) → Bool :=
  @RV.rec (fun _ => (Fn → List RV → List RV → Bool) → Bool) (fun _ => PUnit)
    (fun _ _ => false)
    (fun _ _ _ => false)
    (fun _ _ _ => false)
    (fun _ _ _ => false)
    (fun _ => false)
    (fun _ _ _ => false)
    (fun _ _ _ _ _ => false)
    (fun _ _ _ _ _ => false)
    (fun _ => false)
    (fun _ => false)
    (fun _ _ => false)
    (fun a0 a1 a2 _ _ κ => κ a0 a1 a2)
    (fun _ => false)
    (fun _ _ _ _ => false)
    (fun _ => false)
    (fun _ _ _ => false)
    (fun _ _ _ => false)
    (fun _ _ _ _ _ _ => false)
    (fun _ _ => false)
    (fun _ => false)
    PUnit.unit (fun _ _ _ _ => PUnit.unit) v
theorem rvFn_inv {v : RV} {κ} (h : rvFn v κ = true) : ∃ a0 a1 a2, v = .fn a0 a1 a2 ∧ κ a0 a1 a2 = true := by
  cases v <;> first | exact ⟨_, _, _, rfl, h⟩ | exact absurd h (by simp [rvFn])
noncomputable def rvMap (v : RV) : (Nat → Bool) → Bool :=
  @RV.rec (fun _ => (Nat → Bool) → Bool) (fun _ => PUnit)
    (fun _ _ => false)
    (fun _ _ _ => false)
    (fun _ _ _ => false)
    (fun _ _ _ => false)
    (fun _ => false)
    (fun _ _ _ => false)
    (fun _ _ _ _ _ => false)
    (fun _ _ _ _ _ => false)
    (fun _ => false)
    (fun _ => false)
    (fun a0 κ => κ a0)
    (fun _ _ _ _ _ _ => false)
    (fun _ => false)
    (fun _ _ _ _ => false)
    (fun _ => false)
    (fun _ _ _ => false)
    (fun _ _ _ => false)
    (fun _ _ _ _ _ _ => false)
    (fun _ _ => false)
    (fun _ => false)
    PUnit.unit (fun _ _ _ _ => PUnit.unit) v
theorem rvMap_inv {v : RV} {κ} (h : rvMap v κ = true) : ∃ a0, v = .map a0 ∧ κ a0 = true := by
  cases v <;> first | exact ⟨_, rfl, h⟩ | exact absurd h (by simp [rvMap])
noncomputable def rvIfc (v : RV) : (TypeId → RV → Bool) → Bool :=
  @RV.rec (fun _ => (TypeId → RV → Bool) → Bool) (fun _ => PUnit)
    (fun _ _ => false)
    (fun _ _ _ => false)
    (fun _ _ _ => false)
    (fun _ _ _ => false)
    (fun _ => false)
    (fun _ _ _ => false)
    (fun _ _ _ _ _ => false)
    (fun _ _ _ _ _ => false)
    (fun _ => false)
    (fun _ => false)
    (fun _ _ => false)
    (fun _ _ _ _ _ _ => false)
    (fun _ => false)
    (fun a0 a1 _ κ => κ a0 a1)
    (fun _ => false)
    (fun _ _ _ => false)
    (fun _ _ _ => false)
    (fun _ _ _ _ _ _ => false)
    (fun _ _ => false)
    (fun _ => false)
    PUnit.unit (fun _ _ _ _ => PUnit.unit) v
theorem rvIfc_inv {v : RV} {κ} (h : rvIfc v κ = true) : ∃ a0 a1, v = .ifc a0 a1 ∧ κ a0 a1 = true := by
  cases v <;> first | exact ⟨_, _, rfl, h⟩ | exact absurd h (by simp [rvIfc])
noncomputable def cellsR (v : RV) : List RV :=
  @RV.rec (fun _ => List RV) (fun _ => PUnit)
    (fun a0 => [.bool a0])
    (fun a0 a1 => [.int a0 a1])
    (fun a0 a1 => [.str a0 a1])
    (fun a0 a1 => [.ptr a0 a1])
    ([.nilp])
    (fun a0 a1 => [.glob a0 a1])
    (fun a0 a1 a2 a3 => [.slc a0 a1 a2 a3])
    (fun a0 a1 a2 a3 => [.asl a0 a1 a2 a3])
    ([.nils])
    ([.nilm])
    (fun a0 => [.map a0])
    (fun a0 a1 a2 _ _ => [.fn a0 a1 a2])
    ([.nilf])
    (fun a0 a1 _ => [.ifc a0 a1])
    ([.nili])
    (fun a0 _ => a0)
    (fun a0 _ => [.tup a0])
    (fun a0 a1 a2 a3 a4 => [.emp a0 a1 a2 a3 a4])
    (fun a0 => [.yld a0])
    ([.skp])
    PUnit.unit (fun _ _ _ _ => PUnit.unit) v

end Go.L.Ev
namespace Go.L.Ev
open Go Go.RowKit

/-- The types; the structs that may be compared. -/
structure TyT where
  t : Tr (Option TypeInfo)
  q : List Nat
abbrev FuT := Tr (Option Func)
abbrev K := RV → Hp → Bool
/-- A call: of a function ('false') or of a yield ('true', the loop's number). -/
abbrev KP := RV → Hp → Bool
abbrev CallT := Bool → Nat → List RV → Hp → K → KP → Bool

/-! ### Strict things -/
noncomputable def natF (n : Nat) (κ : Nat → Bool) : Bool := @Nat.rec (fun _ => Bool) (κ 0) (fun m _ => κ (Nat.succ m)) n
noncomputable def boolF (b : Bool) (κ : Bool → Bool) : Bool := @Bool.rec (fun _ => Bool) (κ false) (κ true) b
noncomputable def intF (n : Int) (κ : Int → Bool) : Bool := @Int.rec (fun _ => Bool) (fun m => natF m fun m => κ (.ofNat m)) (fun m => natF m fun m => κ (.negSucc m)) n
noncomputable def iff (b x y : Bool) : Bool := @Bool.rec (fun _ => Bool) y x b
noncomputable def Tr.getK {α : Type} (z : α) (t : Tr α) : Nat → (α → Bool) → Bool :=
  @Tr.rec α (fun _ => Nat → (α → Bool) → Bool) (fun _ κ => κ z) (fun _ v _ gl gr n κ => @Nat.rec (fun _ => Bool) (κ v) (fun m _ => @Bool.rec (fun _ => Bool) (gr (Nat.div m 2) κ) (gl (Nat.div m 2) κ) (Nat.beq (Nat.mod m 2) 0)) n) t

/-! ### Lists -/
noncomputable def nthK {α : Type} (l : List α) : Nat → (α → Bool) → Bool :=
  @List.rec α (fun _ => Nat → (α → Bool) → Bool) (fun _ _ => false) (fun a _ ih n κ => @Nat.rec (fun _ => Bool) (κ a) (fun m _ => ih m κ) n) l
noncomputable def dropK {α : Type} (l : List α) : Nat → (List α → Bool) → Bool :=
  @List.rec α (fun _ => Nat → (List α → Bool) → Bool) (fun n κ => @Nat.rec (fun _ => Bool) (κ []) (fun _ _ => false) n) (fun a tl ih n κ => @Nat.rec (fun _ => Bool) (κ (a :: tl)) (fun m _ => ih m κ) n) l
noncomputable def takeK {α : Type} (l : List α) : Nat → (List α → Bool) → Bool :=
  @List.rec α (fun _ => Nat → (List α → Bool) → Bool) (fun n κ => @Nat.rec (fun _ => Bool) (κ []) (fun _ _ => false) n) (fun a _ ih n κ => @Nat.rec (fun _ => Bool) (κ []) (fun m _ => ih m fun r => κ (a :: r)) n) l
noncomputable def appK {α : Type} (l : List α) : List α → (List α → Bool) → Bool :=
  @List.rec α (fun _ => List α → (List α → Bool) → Bool) (fun m κ => κ m) (fun a _ ih m κ => ih m fun r => κ (a :: r)) l
/-- The first list, then what the second one has behind so many. -/
noncomputable def overK {α : Type} (l : List α) : List α → (List α → Bool) → Bool :=
  @List.rec α (fun _ => List α → (List α → Bool) → Bool) (fun m κ => κ m) (fun a _ ih m κ => @List.rec α (fun _ => Bool) false (fun _ tl _ => ih tl fun r => κ (a :: r)) m) l
noncomputable def spliceK {α : Type} (l : List α) : Nat → List α → (List α → Bool) → Bool :=
  @List.rec α (fun _ => Nat → List α → (List α → Bool) → Bool) (fun n new κ => @Nat.rec (fun _ => Bool) (overK new [] κ) (fun _ _ => false) n)
    (fun a tl ih n new κ => @Nat.rec (fun _ => Bool) (overK new (a :: tl) κ) (fun m _ => ih m new fun r => κ (a :: r)) n) l
noncomputable def lenK {α : Type} (l : List α) (κ : Nat → Bool) : Bool := natF (@List.rec α (fun _ => Nat) 0 (fun _ _ n => Nat.succ n) l) κ
noncomputable def lenIs {α : Type} (l : List α) : Nat → Bool :=
  @List.rec α (fun _ => Nat → Bool) (fun n => Nat.beq n 0) (fun _ _ ih n => @Nat.rec (fun _ => Bool) false (fun m _ => ih m) n) l
/-- So many times the list. -/
noncomputable def repK {α : Type} (l : List α) (n : Nat) : (List α → Bool) → Bool :=
  @Nat.rec (fun _ => (List α → Bool) → Bool) (fun κ => κ []) (fun _ ih κ => ih fun r => appK l r κ) n

/-! ### Constants -/
noncomputable def natOf (l : List UInt8) : Nat := @List.rec UInt8 (fun _ => Nat) 0 (fun b _ n => Nat.add b.toNat (Nat.mul 256 n)) l
noncomputable def ofStr (s : ByteArray) (κ : RV → Bool) : Bool := lenK s.data.toList fun n => natF (natOf s.data.toList) fun m => κ (.str m n)
noncomputable def ofPtr (a : Option Addr) (κ : RV → Bool) : Bool := @Option.rec Addr (fun _ => Bool) (κ .nilp) (fun _ => false) a
noncomputable def ofSl (a : Option Addr) (n c : Nat) (κ : RV → Bool) : Bool := @Option.rec Addr (fun _ => Bool) (iff (Nat.beq n 0) (iff (Nat.beq c 0) (κ .nils) false) false) (fun _ => false) a
noncomputable def ofMp (r : Option Nat) (κ : RV → Bool) : Bool := @Option.rec Nat (fun _ => Bool) (κ .nilm) (fun _ => false) r
noncomputable def ofFn (fn : Fn) (x y : List RV) (κ : RV → Bool) : Bool := @Fn.rec (fun _ => List RV → List RV → (RV → Bool) → Bool) (fun f x y κ => κ (.fn (.func f) x y)) (fun _ _ _ _ => false) (fun _ _ _ _ _ => false) (fun _ _ _ _ _ _ _ => false) (fun _ _ _ _ => false) fn x y κ
noncomputable def ofV (v : Value) : (RV → Bool) → Bool :=
  @Value.rec (fun _ => (RV → Bool) → Bool) (fun _ => (List RV → Bool) → Bool) (fun _ => (List RV → Bool) → Bool)
    (fun b κ => κ (.bool b)) (fun k n κ => κ (.int k n)) (fun _ _ _ => false) (fun _ _ _ _ => false)
    ofStr ofPtr ofSl ofMp (fun _ _ => false)
    (fun fn _ _ ia ib κ => ia fun x => ib fun y => ofFn fn x y κ)
    (fun κ => κ .nilf) (fun t _ ih κ => ih fun r => κ (.ifc t r)) (fun κ => κ .nili) (fun _ ih κ => ih fun l => κ (.agg l)) (fun _ ih κ => ih fun l => κ (.tup l))
    (fun _ ih κ => ih κ) (fun κ => κ []) (fun _ _ ih1 ih2 κ => ih1 fun a => ih2 fun l => κ (a :: l)) v
noncomputable def ofVA (v : Array Value) : (List RV → Bool) → Bool :=
  @Value.rec_1 (fun _ => (RV → Bool) → Bool) (fun _ => (List RV → Bool) → Bool) (fun _ => (List RV → Bool) → Bool)
    (fun b κ => κ (.bool b)) (fun k n κ => κ (.int k n)) (fun _ _ _ => false) (fun _ _ _ _ => false)
    ofStr ofPtr ofSl ofMp (fun _ _ => false)
    (fun fn _ _ ia ib κ => ia fun x => ib fun y => ofFn fn x y κ)
    (fun κ => κ .nilf) (fun t _ ih κ => ih fun r => κ (.ifc t r)) (fun κ => κ .nili) (fun _ ih κ => ih fun l => κ (.agg l)) (fun _ ih κ => ih fun l => κ (.tup l))
    (fun _ ih κ => ih κ) (fun κ => κ []) (fun _ _ ih1 ih2 κ => ih1 fun a => ih2 fun l => κ (a :: l)) v
noncomputable def ofVl (v : List Value) : (List RV → Bool) → Bool :=
  @Value.rec_2 (fun _ => (RV → Bool) → Bool) (fun _ => (List RV → Bool) → Bool) (fun _ => (List RV → Bool) → Bool)
    (fun b κ => κ (.bool b)) (fun k n κ => κ (.int k n)) (fun _ _ _ => false) (fun _ _ _ _ => false)
    ofStr ofPtr ofSl ofMp (fun _ _ => false)
    (fun fn _ _ ia ib κ => ia fun x => ib fun y => ofFn fn x y κ)
    (fun κ => κ .nilf) (fun t _ ih κ => ih fun r => κ (.ifc t r)) (fun κ => κ .nili) (fun _ ih κ => ih fun l => κ (.agg l)) (fun _ ih κ => ih fun l => κ (.tup l))
    (fun _ ih κ => ih κ) (fun κ => κ []) (fun _ _ ih1 ih2 κ => ih1 fun a => ih2 fun l => κ (a :: l)) v

/-! ### Types -/
noncomputable def tinf (ty : TyT) (t : TypeId) (κ : TypeInfo → Bool) : Bool := ty.t.getK none t fun o => @Option.rec TypeInfo (fun _ => Bool) false κ o
noncomputable def sizeK (ty : TyT) (t : TypeId) (κ : Nat → Bool) : Bool := tinf ty t fun i => natF i.size κ
noncomputable def zeroK (ty : TyT) (t : TypeId) (κ : RV → Bool) : Bool := tinf ty t fun i => @Option.rec Value (fun _ => Bool) false (fun z => ofV z κ) i.zero
/-- The underlying type's description, for one who asks 'q' of it. -/
noncomputable def undK (ty : TyT) (t : TypeId) (q : TypeDesc → Bool) : Bool :=
  tinf ty t fun i => @TypeDesc.rec (fun _ => TyT → (TypeDesc → Bool) → Bool) (fun _ q => q .invalid) (fun _ q => q .bool) (fun k _ q => q (.int k)) (fun k _ q => q (.float k)) (fun k _ q => q (.complex k)) (fun _ q => q .string) (fun _ q => q .unsafePointer)
    (fun e _ q => q (.pointer e)) (fun e _ q => q (.slice e)) (fun n e _ q => q (.array n e)) (fun k e _ q => q (.map k e)) (fun d e _ q => q (.chan d e)) (fun fs _ q => q (.struct fs)) (fun p r v _ q => q (.func p r v)) (fun m _ q => q (.interface m)) (fun es _ q => q (.tuple es))
    (fun _ u ty q => tinf ty u fun j => q j.desc) i.desc ty q
/-- What kind a description is of: 0 other, 1 bool, 2 int, 3 string, 4 pointer, 5 slice, 6 array, 7 map, 8 struct, 9 func, 10 interface. -/
noncomputable def kindD (d : TypeDesc) : Nat :=
  @TypeDesc.rec (fun _ => Nat) 0 1 (fun _ => 2) (fun _ => 0) (fun _ => 0) 3 0 (fun _ => 4) (fun _ => 5) (fun _ _ => 6) (fun _ _ => 7) (fun _ _ => 0) (fun _ => 8) (fun _ _ _ => 9) (fun _ => 10) (fun _ => 0) (fun _ _ => 0) d
noncomputable def aggD (d : TypeDesc) : Bool :=
  @TypeDesc.rec (fun _ => Bool) false false (fun _ => false) (fun _ => false) (fun _ => false) false false (fun _ => false) (fun _ => false) (fun _ _ => true) (fun _ _ => false) (fun _ _ => false) (fun _ => true) (fun _ _ _ => false) (fun _ => false) (fun _ => false) (fun _ _ => false) d
noncomputable def tdSlice (d : TypeDesc) : (TypeId → Bool) → Bool :=
  @TypeDesc.rec (fun _ => (TypeId → Bool) → Bool) (fun _ => false) (fun _ => false) (fun _ _ => false) (fun _ _ => false) (fun _ _ => false) (fun _ => false) (fun _ => false) (fun _ _ => false) (fun e κ => κ e) (fun _ _ _ => false) (fun _ _ _ => false) (fun _ _ _ => false) (fun _ _ => false) (fun _ _ _ _ => false) (fun _ _ => false) (fun _ _ => false) (fun _ _ _ => false) d
noncomputable def tdPtr (d : TypeDesc) : (TypeId → Bool) → Bool :=
  @TypeDesc.rec (fun _ => (TypeId → Bool) → Bool) (fun _ => false) (fun _ => false) (fun _ _ => false) (fun _ _ => false) (fun _ _ => false) (fun _ => false) (fun _ => false) (fun e κ => κ e) (fun _ _ => false) (fun _ _ _ => false) (fun _ _ _ => false) (fun _ _ _ => false) (fun _ _ => false) (fun _ _ _ _ => false) (fun _ _ => false) (fun _ _ => false) (fun _ _ _ => false) d
noncomputable def tdArr (d : TypeDesc) : (Nat → TypeId → Bool) → Bool :=
  @TypeDesc.rec (fun _ => (Nat → TypeId → Bool) → Bool) (fun _ => false) (fun _ => false) (fun _ _ => false) (fun _ _ => false) (fun _ _ => false) (fun _ => false) (fun _ => false) (fun _ _ => false) (fun _ _ => false) (fun n e κ => κ n e) (fun _ _ _ => false) (fun _ _ _ => false) (fun _ _ => false) (fun _ _ _ _ => false) (fun _ _ => false) (fun _ _ => false) (fun _ _ _ => false) d
noncomputable def tdMap (d : TypeDesc) : (TypeId → TypeId → Bool) → Bool :=
  @TypeDesc.rec (fun _ => (TypeId → TypeId → Bool) → Bool) (fun _ => false) (fun _ => false) (fun _ _ => false) (fun _ _ => false) (fun _ _ => false) (fun _ => false) (fun _ => false) (fun _ _ => false) (fun _ _ => false) (fun _ _ _ => false) (fun k e κ => κ k e) (fun _ _ _ => false) (fun _ _ => false) (fun _ _ _ _ => false) (fun _ _ => false) (fun _ _ => false) (fun _ _ _ => false) d
noncomputable def tdStr (d : TypeDesc) : (List Field → Bool) → Bool :=
  @TypeDesc.rec (fun _ => (List Field → Bool) → Bool) (fun _ => false) (fun _ => false) (fun _ _ => false) (fun _ _ => false) (fun _ _ => false) (fun _ => false) (fun _ => false) (fun _ _ => false) (fun _ _ => false) (fun _ _ _ => false) (fun _ _ _ => false) (fun _ _ _ => false) (fun fs κ => κ fs.toList) (fun _ _ _ _ => false) (fun _ _ => false) (fun _ _ => false) (fun _ _ _ => false) d
noncomputable def tdInt (d : TypeDesc) : (IntKind → Bool) → Bool :=
  @TypeDesc.rec (fun _ => (IntKind → Bool) → Bool) (fun _ => false) (fun _ => false) (fun k κ => κ k) (fun _ _ => false) (fun _ _ => false) (fun _ => false) (fun _ => false) (fun _ _ => false) (fun _ _ => false) (fun _ _ _ => false) (fun _ _ _ => false) (fun _ _ _ => false) (fun _ _ => false) (fun _ _ _ _ => false) (fun _ _ => false) (fun _ _ => false) (fun _ _ _ => false) d

/-! ### Operands -/
noncomputable def opd (x : Operand) : VE → (RV → Bool) → Bool :=
  @Operand.rec (fun _ => VE → (RV → Bool) → Bool) (fun t e κ => e.getK (.tup []) t κ) (fun v _ κ => ofV v κ) (fun g _ κ => iff (Nat.blt g 1000000) (κ (.glob g 0)) false) (fun f _ κ => κ (.fn (.func f) [] [])) x
noncomputable def opds (l : List Operand) : VE → (List RV → Bool) → Bool :=
  @List.rec Operand (fun _ => VE → (List RV → Bool) → Bool) (fun _ κ => κ []) (fun x _ ih e κ => opd x e fun v => ih e fun r => κ (v :: r)) l
noncomputable def opdO (x : Option Operand) (e : VE) (κ : Option RV → Bool) : Bool := @Option.rec Operand (fun _ => Bool) (κ none) (fun x => opd x e fun v => κ (some v)) x

/-! ### What is made -/
noncomputable def push (o : Ob) (h : Hp) (κ : Nat → Hp → Bool) : Bool := natF (Nat.succ h.next) fun n => Tr.set o h.t h.next fun t => κ h.next ⟨n, t⟩
noncomputable def setO (i : Nat) (o : Ob) (h : Hp) (κ : Hp → Bool) : Bool := Tr.set o h.t i fun t => κ ⟨h.next, t⟩
/-- The cells of a thing. -/
noncomputable def obK (h : Hp) (i : Nat) (κ : List RV → Bool) : Bool :=
  h.t.getK .no i fun o => @Ob.rec (fun _ => (List RV → Bool) → Bool) (fun _ => false) (fun _ cs κ => κ cs) (fun _ _ _ cs κ => κ cs) (fun _ _ _ => false) (fun _ _ _ _ => false) (fun _ _ _ _ _ => false) (fun _ => false) (fun _ _ _ _ _ _ _ _ _ => false) o κ
/-- The cells of a thing, and how it is with other cells. -/
noncomputable def obM (h : Hp) (i : Nat) (κ : List RV → (List RV → Ob) → Bool) : Bool :=
  h.t.getK .no i fun o => @Ob.rec (fun _ => (List RV → (List RV → Ob) → Bool) → Bool) (fun _ => false) (fun t cs κ => κ cs (.bx t)) (fun e sz n cs κ => κ cs (.row e sz n)) (fun _ _ _ => false) (fun _ _ _ _ => false) (fun _ _ _ _ _ => false) (fun _ => false) (fun _ _ _ _ _ _ _ _ _ => false) o κ
noncomputable def obRow (h : Hp) (i : Nat) (κ : TypeId → Nat → Nat → List RV → Bool) : Bool :=
  h.t.getK .no i fun o => @Ob.rec (fun _ => (TypeId → Nat → Nat → List RV → Bool) → Bool) (fun _ => false) (fun _ _ _ => false) (fun e sz n cs κ => κ e sz n cs) (fun _ _ _ => false) (fun _ _ _ _ => false) (fun _ _ _ _ _ => false) (fun _ => false) (fun _ _ _ _ _ _ _ _ _ => false) o κ
noncomputable def obMap (h : Hp) (i : Nat) (κ : Nat → List (RV × RV × Nat) → Bool) : Bool :=
  h.t.getK .no i fun o => @Ob.rec (fun _ => (Nat → List (RV × RV × Nat) → Bool) → Bool) (fun _ => false) (fun _ _ _ => false) (fun _ _ _ _ _ => false) (fun c es κ => κ c es) (fun _ _ _ _ => false) (fun _ _ _ _ _ => false) (fun _ => false) (fun _ _ _ _ _ _ _ _ _ => false) o κ

/-! ### Scalars -/
noncomputable def ikN (k : IntKind) : Nat := @IntKind.rec (fun _ => Nat) 0 1 2 3 4 5 6 7 k
noncomputable def ikEq (j k : IntKind) : Bool := Nat.beq (ikN j) (ikN k)
/-- A small enough one is itself. -/
noncomputable def fits (k : IntKind) (n : Int) : Bool :=
  @Int.rec (fun _ => Bool) (fun m => Nat.blt m (@IntKind.rec (fun _ => Nat) 128 32768 2147483648 9223372036854775808 256 65536 4294967296 18446744073709551616 k))
    (fun m => Nat.blt m (@IntKind.rec (fun _ => Nat) 128 32768 2147483648 9223372036854775808 0 0 0 0 k)) n
noncomputable def wrapK (k : IntKind) (n : Int) (κ : RV → Bool) : Bool := intF n fun n => iff (fits k n) (κ (.int k n)) (intF (k.wrap n) fun m => κ (.int k m))
noncomputable def iLt (a b : Int) : Bool :=
  @Int.rec (fun _ => Int → Bool) (fun m b => @Int.rec (fun _ => Nat → Bool) (fun n m => Nat.blt m n) (fun _ _ => false) b m) (fun m b => @Int.rec (fun _ => Nat → Bool) (fun _ _ => true) (fun n m => Nat.blt n m) b m) a b
noncomputable def iEq (a b : Int) : Bool :=
  @Int.rec (fun _ => Int → Bool) (fun m b => @Int.rec (fun _ => Nat → Bool) (fun n m => Nat.beq m n) (fun _ _ => false) b m) (fun m b => @Int.rec (fun _ => Nat → Bool) (fun _ _ => false) (fun n m => Nat.beq n m) b m) a b
noncomputable def iNat (a : Int) (κ : Nat → Bool) : Bool := @Int.rec (fun _ => Bool) κ (fun _ => false) a
noncomputable def bAnd (a b : Bool) : Bool := @Bool.rec (fun _ => Bool) false b a
noncomputable def bOr (a b : Bool) : Bool := @Bool.rec (fun _ => Bool) b true a
noncomputable def bNot (a : Bool) : Bool := @Bool.rec (fun _ => Bool) true false a
noncomputable def bEq (a b : Bool) : Bool := @Bool.rec (fun _ => Bool) (bNot b) b a
noncomputable def sEq (m i n j : Nat) : Bool := bAnd (Nat.beq i j) (Nat.beq (Nat.mod m (Nat.pow 256 i)) (Nat.mod n (Nat.pow 256 j)))
/-- Is the one text less than the other? -/
noncomputable def sLt (i : Nat) : Nat → Nat → Nat → Bool :=
  @Nat.rec (fun _ => Nat → Nat → Nat → Bool) (fun _ j _ => Nat.blt 0 j)
    (fun _ ih m j n => @Nat.rec (fun _ => Bool) false (fun j' _ => iff (Nat.beq (Nat.mod m 256) (Nat.mod n 256)) (ih (Nat.div m 256) j' (Nat.div n 256)) (Nat.blt (Nat.mod m 256) (Nat.mod n 256))) j) i

/-! ### Arithmetic -/
abbrev BinT := RV → RV → (RV → Bool) → Bool
noncomputable def ints (f : IntKind → Int → Int → (RV → Bool) → Bool) : BinT := fun x y κ => rvInt x fun j a => rvInt y fun k b => iff (ikEq j k) (f j a b κ) false
/-- Integers, or texts. -/
noncomputable def isInt (v : RV) : Bool := rvInt v fun _ _ => true
noncomputable def strs (f : Nat → Nat → Nat → Nat → (RV → Bool) → Bool) : BinT := fun x y κ => rvStr x fun m i => rvStr y fun n j => f m i n j κ
noncomputable def boolK (b : Bool) (κ : RV → Bool) : Bool := @Bool.rec (fun _ => Bool) (κ (.bool false)) (κ (.bool true)) b
noncomputable def bAdd : BinT := fun x y κ => iff (isInt x) (ints (fun k a b κ => wrapK k (a + b) κ) x y κ)
  (strs (fun m i n j κ => natF (Nat.add (Nat.mod m (Nat.pow 256 i)) (Nat.mul n (Nat.pow 256 i))) fun s => natF (Nat.add i j) fun l => iff (Nat.blt l 1000000) (κ (.str s l)) false) x y κ)
noncomputable def bCmp (f : Int → Int → Bool) (g : Nat → Nat → Nat → Nat → Bool) : BinT := fun x y κ => iff (isInt x) (ints (fun _ a b κ => boolK (f a b) κ) x y κ) (strs (fun m i n j κ => boolK (g m i n j) κ) x y κ)
noncomputable def bDiv (f : Int → Int → Int) : BinT := ints fun k a b κ => iff (iEq b 0) false (wrapK k (f a b) κ)
noncomputable def bRem : BinT := ints fun k a b κ => iff (iEq b 0) false (intF (a.tmod b) fun r => κ (.int k r))
noncomputable def bBit (f : (n : Nat) → BitVec n → BitVec n → BitVec n) : BinT := ints fun k a b κ => wrapK k (f k.bits (BitVec.ofInt k.bits a) (BitVec.ofInt k.bits b)).toNat κ
noncomputable def bShl : BinT := fun x y κ => rvInt x fun k a => rvInt y fun _ b => iNat b fun n => wrapK k (a * 2 ^ (min n k.bits)) κ
noncomputable def bShr : BinT := fun x y κ => rvInt x fun k a => rvInt y fun _ b => iNat b fun n => intF (a.fdiv (2 ^ (min n k.bits))) fun r => κ (.int k r)
noncomputable def noBin : BinT := fun _ _ _ => false
noncomputable def binR (op : BinOp) : BinT :=
  @BinOp.rec (fun _ => BinT) bAdd (ints fun k a b κ => wrapK k (a - b) κ) (ints fun k a b κ => wrapK k (a * b) κ) (bDiv Int.tdiv) bRem (bBit fun _ a b => a &&& b) (bBit fun _ a b => a ||| b) (bBit fun _ a b => a ^^^ b) bShl bShr
    (bBit fun _ a b => a &&& ~~~b) noBin noBin (bCmp iLt fun m i n j => sLt i m j n) (bCmp (fun a b => bNot (iLt b a)) fun m i n j => bOr (sLt i m j n) (sEq m i n j)) (bCmp (fun a b => iLt b a) fun m i n j => bNot (bOr (sLt i m j n) (sEq m i n j))) (bCmp (fun a b => bNot (iLt a b)) fun m i n j => bNot (sLt i m j n)) op

/-- Are two values the same, of a type of this kind (no struct, array, interface)? -/
noncomputable def eqS (kd : Nat) (x y : RV) (κ : Bool → Bool) : Bool :=
  @RV.rec (fun _ => Nat → RV → (Bool → Bool) → Bool) (fun _ => PUnit)
    (fun a0 kd y κ => iff (Nat.beq kd 1) (rvBool y fun b => boolF (bEq a0 b) κ) false)
    (fun a0 a1 kd y κ => iff (Nat.beq kd 2) (rvInt y fun k b => iff (ikEq a0 k) (boolF (iEq a1 b) κ) false) false)
    (fun a0 a1 kd y κ => iff (Nat.beq kd 3) (iff (strB a0 a1) (rvStr y fun n j => boolF (sEq a0 a1 n j) κ) false) false)
    (fun _ _ kd y κ => iff (Nat.beq kd 4) (@RV.rec (fun _ => Bool) (fun _ => PUnit) (fun _ => false) (fun _ _ => false) (fun _ _ => false) (fun _ _ => false) (κ false) (fun _ _ => false) (fun _ _ _ _ => false) (fun _ _ _ _ => false) (false) (false) (fun _ => false) (fun _ _ _ _ _ => false) (false) (fun _ _ _ => false) (false) (fun _ _ => false) (fun _ _ => false) (fun _ _ _ _ _ => false) (fun _ => false) (false) PUnit.unit (fun _ _ _ _ => PUnit.unit) y) false)
    (fun kd y κ => iff (Nat.beq kd 4) (@RV.rec (fun _ => Bool) (fun _ => PUnit) (fun _ => false) (fun _ _ => false) (fun _ _ => false) (fun _ _ => κ false) (κ true) (fun _ _ => κ false) (fun _ _ _ _ => false) (fun _ _ _ _ => false) (false) (false) (fun _ => false) (fun _ _ _ _ _ => false) (false) (fun _ _ _ => false) (false) (fun _ _ => false) (fun _ _ => false) (fun _ _ _ _ _ => false) (fun _ => false) (false) PUnit.unit (fun _ _ _ _ => PUnit.unit) y) false)
    (fun _ _ _ _ _ => false)
    (fun _ _ _ _ kd y κ => iff (Nat.beq kd 5) (@RV.rec (fun _ => Bool) (fun _ => PUnit) (fun _ => false) (fun _ _ => false) (fun _ _ => false) (fun _ _ => false) (false) (fun _ _ => false) (fun _ _ _ _ => false) (fun _ _ _ _ => false) (κ false) (false) (fun _ => false) (fun _ _ _ _ _ => false) (false) (fun _ _ _ => false) (false) (fun _ _ => false) (fun _ _ => false) (fun _ _ _ _ _ => false) (fun _ => false) (false) PUnit.unit (fun _ _ _ _ => PUnit.unit) y) false)
    (fun _ _ _ _ kd y κ => iff (Nat.beq kd 5) (@RV.rec (fun _ => Bool) (fun _ => PUnit) (fun _ => false) (fun _ _ => false) (fun _ _ => false) (fun _ _ => false) (false) (fun _ _ => false) (fun _ _ _ _ => false) (fun _ _ _ _ => false) (κ false) (false) (fun _ => false) (fun _ _ _ _ _ => false) (false) (fun _ _ _ => false) (false) (fun _ _ => false) (fun _ _ => false) (fun _ _ _ _ _ => false) (fun _ => false) (false) PUnit.unit (fun _ _ _ _ => PUnit.unit) y) false)
    (fun kd y κ => iff (Nat.beq kd 5) (@RV.rec (fun _ => Bool) (fun _ => PUnit) (fun _ => false) (fun _ _ => false) (fun _ _ => false) (fun _ _ => false) (false) (fun _ _ => false) (fun _ _ _ _ => κ false) (fun _ _ _ _ => κ false) (κ true) (false) (fun _ => false) (fun _ _ _ _ _ => false) (false) (fun _ _ _ => false) (false) (fun _ _ => false) (fun _ _ => false) (fun _ _ _ _ _ => false) (fun _ => false) (false) PUnit.unit (fun _ _ _ _ => PUnit.unit) y) false)
    (fun kd y κ => iff (Nat.beq kd 7) (@RV.rec (fun _ => Bool) (fun _ => PUnit) (fun _ => false) (fun _ _ => false) (fun _ _ => false) (fun _ _ => false) (false) (fun _ _ => false) (fun _ _ _ _ => false) (fun _ _ _ _ => false) (false) (κ true) (fun _ => κ false) (fun _ _ _ _ _ => false) (false) (fun _ _ _ => false) (false) (fun _ _ => false) (fun _ _ => false) (fun _ _ _ _ _ => false) (fun _ => false) (false) PUnit.unit (fun _ _ _ _ => PUnit.unit) y) false)
    (fun _ kd y κ => iff (Nat.beq kd 7) (@RV.rec (fun _ => Bool) (fun _ => PUnit) (fun _ => false) (fun _ _ => false) (fun _ _ => false) (fun _ _ => false) (false) (fun _ _ => false) (fun _ _ _ _ => false) (fun _ _ _ _ => false) (false) (κ false) (fun _ => false) (fun _ _ _ _ _ => false) (false) (fun _ _ _ => false) (false) (fun _ _ => false) (fun _ _ => false) (fun _ _ _ _ _ => false) (fun _ => false) (false) PUnit.unit (fun _ _ _ _ => PUnit.unit) y) false)
    (fun _ _ _ _ _ kd y κ => iff (Nat.beq kd 9) (@RV.rec (fun _ => Bool) (fun _ => PUnit) (fun _ => false) (fun _ _ => false) (fun _ _ => false) (fun _ _ => false) (false) (fun _ _ => false) (fun _ _ _ _ => false) (fun _ _ _ _ => false) (false) (false) (fun _ => false) (fun _ _ _ _ _ => false) (κ false) (fun _ _ _ => false) (false) (fun _ _ => false) (fun _ _ => false) (fun _ _ _ _ _ => false) (fun _ => false) (false) PUnit.unit (fun _ _ _ _ => PUnit.unit) y) false)
    (fun kd y κ => iff (Nat.beq kd 9) (@RV.rec (fun _ => Bool) (fun _ => PUnit) (fun _ => false) (fun _ _ => false) (fun _ _ => false) (fun _ _ => false) (false) (fun _ _ => false) (fun _ _ _ _ => false) (fun _ _ _ _ => false) (false) (false) (fun _ => false) (fun _ _ _ _ _ => κ false) (κ true) (fun _ _ _ => false) (false) (fun _ _ => false) (fun _ _ => false) (fun _ _ _ _ _ => false) (fun _ => false) (false) PUnit.unit (fun _ _ _ _ => PUnit.unit) y) false)
    (fun _ _ _ _ _ _ => false)
    (fun _ _ _ => false)
    (fun _ _ _ _ _ => false)
    (fun _ _ _ _ _ => false)
    (fun _ _ _ _ _ _ _ _ => false) (fun _ _ _ _ => false)
    (fun _ _ _ => false)
    PUnit.unit (fun _ _ _ _ => PUnit.unit) x kd y κ
/-- An interface's value: nil, or what it holds. -/
noncomputable def rvI (v : RV) : Bool → (TypeId → RV → Bool) → Bool :=
  @RV.rec (fun _ => Bool → (TypeId → RV → Bool) → Bool) (fun _ => PUnit)
    (fun _ _ _ => false)
    (fun _ _ _ _ => false)
    (fun _ _ _ _ => false)
    (fun _ _ _ _ => false)
    (fun _ _ => false)
    (fun _ _ _ _ => false)
    (fun _ _ _ _ _ _ => false)
    (fun _ _ _ _ _ _ => false)
    (fun _ _ => false)
    (fun _ _ => false)
    (fun _ _ _ => false)
    (fun _ _ _ _ _ _ _ => false)
    (fun _ _ => false)
    (fun a0 a1 _ _ κ => κ a0 a1)
    (fun z _ => z)
    (fun _ _ _ _ => false)
    (fun _ _ _ _ => false)
    (fun _ _ _ _ _ _ _ => false) (fun _ _ _ => false)
    (fun _ _ => false)
    PUnit.unit (fun _ _ _ _ => PUnit.unit) v
noncomputable def isNili (v : RV) : Bool :=
  @RV.rec (fun _ => Bool) (fun _ => PUnit)
    (fun _ => false)
    (fun _ _ => false)
    (fun _ _ => false)
    (fun _ _ => false)
    (false)
    (fun _ _ => false)
    (fun _ _ _ _ => false)
    (fun _ _ _ _ => false)
    (false)
    (false)
    (fun _ => false)
    (fun _ _ _ _ _ => false)
    (false)
    (fun _ _ _ => false)
    (true)
    (fun _ _ => false)
    (fun _ _ => false)
    (fun _ _ _ _ _ => false) (fun _ => false)
    (false)
    PUnit.unit (fun _ _ _ _ => PUnit.unit) v
noncomputable def isStr (v : RV) : Bool := rvStr v fun _ _ => true
noncomputable def isStrQ (v : RV) : Bool := rvStrQ v fun _ _ => true
noncomputable def memN (l : List Nat) (t : Nat) : Bool := @List.rec Nat (fun _ => Bool) false (fun a _ ih => iff (Nat.beq a t) true ih) l
/-- Are two values of a type the same? Structs part by part. -/
noncomputable def eqK (d : Nat) : TyT → TypeId → RV → RV → (Bool → Bool) → Bool :=
  @Nat.rec (fun _ => TyT → TypeId → RV → RV → (Bool → Bool) → Bool) (fun _ _ _ _ _ => false)
    (fun _ ih ty t x y κ => undK ty t fun td => iff (aggD td)
      (rvAgg x fun xs => rvAgg y fun ys => iff (memN ty.q t)
        (tdStr td fun fs => @List.rec Field (fun _ => Bool) (κ true)
          (fun f _ ihf => undK ty f.type fun fd => iff (aggD fd)
            (dropK xs f.offset fun xa => dropK ys f.offset fun ya => sizeK ty f.type fun n => takeK xa n fun xb => takeK ya n fun yb => ih ty f.type (.agg xb) (.agg yb) fun b => iff b ihf (κ false))
            (nthK xs f.offset fun xa => nthK ys f.offset fun ya => ih ty f.type xa ya fun b => iff b ihf (κ false))) fs) false)
      (iff (Nat.beq (kindD td) 10) (rvI x (rvI y (κ true) fun _ _ => κ false) fun t v => rvI y (κ false) fun u w => iff (Nat.beq t u) (tinf ty t fun i => iff i.comparable (ih ty t v w κ) false) (κ false)) (eqS (kindD td) x y κ))) d
end Go.L.Ev
namespace Go.L.Ev
open Go Go.RowKit

/-- What a frame does when it is left. -/
inductive DV where
  | mk (D : Nat)
  | fn (f : FuncId) (args : List RV)
abbrev Ds := List DV
abbrev OpT := TyT → CallT → VE → Hp → K → (DV → Bool) → KP → Bool
noncomputable abbrev undefR : RV := .tup []

noncomputable def oMove (x : Operand) : OpT := fun _ _ e h k _ _ => opd x e fun v => k v h
noncomputable def oPick (q a b : Operand) : OpT := fun _ _ e h k _ _ => opd q e fun v => rvBool v fun t => iff t (opd a e fun v => k v h) (opd b e fun v => k v h)
noncomputable def oAlloc (t : TypeId) : OpT := fun ty _ _ h k _ _ => zeroK ty t fun z => push (.bx t (cellsR z)) h fun i h' => k (.ptr i 0) h'
noncomputable def oBox (t : TypeId) (x : Operand) : OpT := fun _ _ e h k _ _ => opd x e fun v => push (.bx t (cellsR v)) h fun i h' => k (.ptr i 0) h'
noncomputable def buildS (ty : TyT) (fs : List Field) (e : VE) (ps : List (Nat × Operand)) : List RV → (List RV → Bool) → Bool :=
  @List.rec (Nat × Operand) (fun _ => List RV → (List RV → Bool) → Bool) (fun cs κ => κ cs)
    (fun p _ ih cs κ => nthK fs p.1 fun f => sizeK ty f.type fun n => opd p.2 e fun v => iff (lenIs (cellsR v) n) (spliceK cs f.offset (cellsR v) fun cs' => ih cs' κ) false) ps
noncomputable def buildA (s n : Nat) (e : VE) (ps : List (Nat × Operand)) : List RV → (List RV → Bool) → Bool :=
  @List.rec (Nat × Operand) (fun _ => List RV → (List RV → Bool) → Bool) (fun cs κ => κ cs)
    (fun p _ ih cs κ => opd p.2 e fun v => iff (lenIs (cellsR v) s) (iff (Nat.blt p.1 n) (spliceK cs (Nat.mul p.1 s) (cellsR v) fun cs' => ih cs' κ) false) false) ps
noncomputable def oBuild (t : TypeId) (ps : Array (Nat × Operand)) : OpT := fun ty _ e h k _ _ => undK ty t fun td => zeroK ty t fun z =>
  iff (Nat.beq (kindD td) 8) (tdStr td fun fs => buildS ty fs e ps.toList (cellsR z) fun cs => k (.agg cs) h)
    (tdArr td fun n el => sizeK ty el fun s => buildA s n e ps.toList (cellsR z) fun cs => k (.agg cs) h)
noncomputable def rowOf (sz n : Nat) (e : VE) (ps : List (Nat × Operand)) : Nat → (List RV → Bool) → Bool :=
  @List.rec (Nat × Operand) (fun _ => Nat → (List RV → Bool) → Bool) (fun j κ => iff (Nat.beq j n) (κ []) false)
    (fun p _ ih j κ => iff (Nat.beq p.1 j) (opd p.2 e fun v => iff (lenIs (cellsR v) sz) (ih (Nat.succ j) fun r => appK (cellsR v) r κ) false) false) ps
noncomputable def oBuildSl (t : TypeId) (n : Nat) (ps : Array (Nat × Operand)) : OpT := fun ty _ e h k _ _ => undK ty t fun td => tdSlice td fun el => sizeK ty el fun sz =>
  iff (Nat.ble n 1024) (iff (Nat.ble 1 sz) (iff (Nat.ble sz 1024) (rowOf sz n e ps.toList 0 fun cs => push (.row el sz n cs) h fun i h' => k (.slc i 0 0 n) h') false) false) false
noncomputable def isOne (v : RV) : Bool :=
  @RV.rec (fun _ => Bool) (fun _ => PUnit) (fun _ => true) (fun _ _ => true) (fun _ _ => true) (fun _ _ => true) true (fun _ _ => true) (fun _ _ _ _ => true) (fun _ _ _ _ => true) true true (fun _ => true) (fun _ _ _ _ _ => true) true (fun _ _ _ => true) true (fun _ _ => false) (fun _ _ => false) (fun _ _ _ _ _ => false) (fun _ => true) false PUnit.unit (fun _ _ _ _ => PUnit.unit) v
noncomputable def allOne (l : List RV) : Bool := @List.rec RV (fun _ => Bool) true (fun a _ ih => iff (isOne a) ih false) l
noncomputable def ldAt (ty : TyT) (t : TypeId) (h : Hp) (i off : Nat) (κ : RV → Bool) : Bool :=
  obK h i fun cs => undK ty t fun td => iff (aggD td) (sizeK ty t fun n => dropK cs off fun l => takeK l n fun l => κ (.agg l)) (nthK cs off κ)
noncomputable def oLoad (t : TypeId) (a : Operand) : OpT := fun ty _ e h k _ _ => opd a e fun v => rvPtr v fun i off => ldAt ty t h i off fun r => k r h
noncomputable def oStore (t : TypeId) (a x : Operand) : OpT := fun ty _ e h k _ _ => opd a e fun p => rvPtr p fun i off => opd x e fun v => sizeK ty t fun n =>
  iff (lenIs (cellsR v) n) (iff (allOne (cellsR v)) (obM h i fun cs mk => spliceK cs off (cellsR v) fun cs' => setO i (mk cs') h fun h' => k undefR h') false) false
noncomputable def isThere (v : RV) : Bool :=
  @RV.rec (fun _ => Bool) (fun _ => PUnit) (fun _ => false) (fun _ _ => false) (fun _ _ => false) (fun _ _ => true) false (fun _ _ => true) (fun _ _ _ _ => false) (fun _ _ _ _ => false) false false (fun _ => false)
    (fun f _ _ _ _ => @Fn.rec (fun _ => Bool) (fun _ => true) (fun _ => false) (fun _ _ => false) (fun _ _ _ _ => false) (fun _ => false) f) false (fun _ _ _ => false) false (fun _ _ => false) (fun _ _ => false) (fun _ _ _ _ _ => false) (fun _ => false) false PUnit.unit (fun _ _ _ _ => PUnit.unit) v
noncomputable def oNil (x : Operand) : OpT := fun _ _ e h k _ _ => opd x e fun v => iff (isThere v) (k v h) false
noncomputable def eqT (ty : TyT) (t : TypeId) (x y : RV) (κ : Bool → Bool) : Bool :=
  iff (isInt x) (rvInt x fun j a => rvInt y fun k b => iff (ikEq j k) (boolF (iEq a b) κ) false) (iff (isStr x) (rvStr x fun m i => rvStr y fun n j => boolF (sEq m i n j) κ) (iff (isStrQ x) (rvStrQ x fun m i => rvStrQ y fun n j => iff (Nat.beq m n) (iff (Nat.beq i j) (κ true) false) false) (eqK 40 ty t x y κ)))
noncomputable def cst (x : Operand) : Bool := @Operand.rec (fun _ => Bool) (fun _ => false) (fun _ => true) (fun _ => false) (fun _ => false) x
noncomputable def binT (op : BinOp) : TyT → TypeId → BinT :=
  @BinOp.rec (fun _ => TyT → TypeId → BinT) (fun _ _ => binR .add) (fun _ _ => binR .sub) (fun _ _ => binR .mul) (fun _ _ => binR .quo) (fun _ _ => binR .rem) (fun _ _ => binR .and) (fun _ _ => binR .or) (fun _ _ => binR .xor) (fun _ _ => binR .shl) (fun _ _ => binR .shr) (fun _ _ => binR .andNot)
    (fun ty t x y κ => eqT ty t x y fun b => boolK b κ) (fun ty t x y κ => eqT ty t x y fun b => boolK (bNot b) κ) (fun _ _ => binR .lss) (fun _ _ => binR .leq) (fun _ _ => binR .gtr) (fun _ _ => binR .geq) op
noncomputable def oBin (op : BinOp) (t : TypeId) (x y : Operand) : OpT := fun ty _ e h k _ _ => opd x e fun a => opd y e fun b => iff (bAnd (isNili a) (bAnd (isNili b) (bNot (bOr (cst x) (cst y))))) false (binT op ty t a b fun r => k r h)
noncomputable def unR (op : UnOp) : RV → (RV → Bool) → Bool :=
  @UnOp.rec (fun _ => RV → (RV → Bool) → Bool) (fun v κ => rvInt v fun k n => wrapK k (0 - n) κ) (fun _ _ => false) (fun v κ => rvBool v fun b => boolK (bNot b) κ) (fun _ _ => false) op
noncomputable def oUn (op : UnOp) (x : Operand) : OpT := fun _ _ e h k _ _ => opd x e fun v => unR op v fun r => k r h
/-- A slice's thing, its first cell, its length. -/
noncomputable def rvSl (v : RV) : (Nat → Nat → Nat → Bool) → Bool :=
  @RV.rec (fun _ => (Nat → Nat → Nat → Bool) → Bool) (fun _ => PUnit) (fun _ _ => false) (fun _ _ _ => false) (fun _ _ _ => false) (fun _ _ _ => false) (fun _ => false) (fun _ _ _ => false) (fun i off _ len κ => κ i off len) (fun i off len _ κ => κ i off len) (fun _ => false) (fun _ => false) (fun _ _ => false)
    (fun _ _ _ _ _ _ => false) (fun _ => false) (fun _ _ _ _ => false) (fun _ => false) (fun _ _ _ => false) (fun _ _ _ => false) (fun _ _ _ _ _ _ => false) (fun _ _ => false) (fun _ => false) PUnit.unit (fun _ _ _ _ => PUnit.unit) v
/-- The cells that a slice shows ('sz' each). -/
noncomputable def slCells (h : Hp) (sz : Nat) (v : RV) (κ : Nat → List RV → Bool) : Bool :=
  @RV.rec (fun _ => Hp → Nat → (Nat → List RV → Bool) → Bool) (fun _ => PUnit) (fun _ _ _ _ => false) (fun _ _ _ _ _ => false) (fun _ _ _ _ _ => false) (fun _ _ _ _ _ => false) (fun _ _ _ => false) (fun _ _ _ _ _ => false)
    (fun i off _ len h sz κ => obK h i fun cs => dropK cs off fun l => takeK l (Nat.mul len sz) fun l => κ len l) (fun i off len _ h sz κ => obK h i fun cs => dropK cs off fun l => takeK l (Nat.mul len sz) fun l => κ len l)
    (fun _ _ κ => κ 0 []) (fun _ _ _ => false) (fun _ _ _ _ => false)
    (fun _ _ _ _ _ _ _ _ => false) (fun _ _ _ => false) (fun _ _ _ _ _ _ => false) (fun _ _ _ => false) (fun _ _ _ _ _ => false) (fun _ _ _ _ _ => false) (fun _ _ _ _ _ _ _ κ => κ 0 []) (fun _ _ _ _ => false) (fun _ _ _ => false) PUnit.unit (fun _ _ _ _ => PUnit.unit) v h sz κ
noncomputable def bytesK (l : List RV) : (Nat → Bool) → Bool :=
  @List.rec RV (fun _ => (Nat → Bool) → Bool) (fun κ => κ 0) (fun a _ ih κ => rvInt a fun k n => iff (ikEq k .u8) (iNat n fun n => iff (Nat.blt n 256) (ih fun r => natF (Nat.add n (Nat.mul 256 r)) κ) false) false) l
noncomputable def cellsOfStr (len : Nat) : Nat → (List RV → Bool) → Bool :=
  @Nat.rec (fun _ => Nat → (List RV → Bool) → Bool) (fun _ κ => κ []) (fun _ ih n κ => natF (Nat.mod n 256) fun b => ih (Nat.div n 256) fun r => κ (.int .u8 (.ofNat b) :: r)) len
noncomputable def convK (ty : TyT) (s d : TypeId) (v : RV) (h : Hp) (k : K) : Bool :=
  undK ty s fun _ => undK ty d fun dd => @TypeDesc.rec (fun _ => TyT → TypeId → RV → Hp → K → Bool) (fun _ _ _ _ _ => false) (fun _ _ _ _ _ => false) (fun kk _ _ v h k => rvInt v fun _ n => wrapK kk n fun r => k r h) (fun _ _ _ _ _ _ => false) (fun _ _ _ _ _ _ => false)
    (fun ty s v h k => undK ty s fun sd => iff (Nat.beq (kindD sd) 3) (rvStr v fun m i => k (.str m i) h)
      (tdSlice sd fun el => undK ty el fun ed => tdInt ed fun kk => iff (ikEq kk .u8) (slCells h 1 v fun n l => bytesK l fun m => k (.str m n) h) false))
    (fun _ _ _ _ _ => false) (fun _ _ _ _ _ _ => false)
    (fun el ty _ v h k => undK ty el fun ed => tdInt ed fun kk => iff (ikEq kk .u8) (rvStr v fun m i => cellsOfStr i m fun cs => push (.bx el cs) h fun j h' => k (.slc j 0 0 i) h') false)
    (fun _ _ _ _ _ _ _ => false) (fun _ _ _ _ _ _ _ => false) (fun _ _ _ _ _ _ _ => false) (fun _ _ _ _ _ _ => false) (fun _ _ _ _ _ _ _ _ => false) (fun _ _ _ _ _ _ => false) (fun _ _ _ _ _ _ => false) (fun _ _ _ _ _ _ _ => false) dd ty s v h k
noncomputable def oConv (s d : TypeId) (x : Operand) : OpT := fun ty _ e h k _ _ => opd x e fun v => convK ty s d v h k
noncomputable def oMkI (t : TypeId) (x : Operand) : OpT := fun ty _ e h k _ _ => opd x e fun v => undK ty t fun d => iff (Nat.beq (kindD d) 10) false (k (.ifc t v) h)
noncomputable def fnIsF (f : Fn) : Bool := @Fn.rec (fun _ => Bool) (fun _ => true) (fun _ => false) (fun _ _ => false) (fun _ _ _ _ => false) (fun _ => false) f
noncomputable def oMkF (fn : Fn) (a b : Array Operand) : OpT := fun _ _ e h k _ _ => iff (fnIsF fn) (opds a.toList e fun x => opds b.toList e fun y => k (.fn fn x y) h) false
noncomputable def oMkMap (_t : TypeId) (r : Option Operand) : OpT := fun _ _ _ h k _ _ => @Option.rec Operand (fun _ => Bool) (push (.mp 0 []) h fun i h' => k (.map i) h') (fun _ => false) r
noncomputable def oMkSl (t : TypeId) (l c : Operand) : OpT := fun ty _ e h k _ _ => opd l e fun lv => opd c e fun cv => rvInt lv fun _ ln => rvInt cv fun _ cn => iNat ln fun n => iNat cn fun c => undK ty t fun td => tdSlice td fun el => sizeK ty el fun sz =>
  iff (Nat.ble n c) (iff (Nat.ble c 1000000) (iff (Nat.ble 1 sz) (iff (Nat.ble sz 1024) (zeroK ty el fun z => repK (cellsR z) n fun cs => push (.row el sz n cs) h fun i h' => k (.slc i 0 0 n) h') false) false) false) false
noncomputable def bnd (x : Option Operand) (dflt : Nat) (e : VE) (κ : Nat → Bool) : Bool := @Option.rec Operand (fun _ => Bool) (κ dflt) (fun x => opd x e fun v => rvInt v fun _ n => iNat n κ) x
/-- An array, or what an array's address leads to. -/
noncomputable def arrOr (ty : TyT) (td : TypeDesc) (κ : Nat → TypeId → Bool) : Bool := iff (Nat.beq (kindD td) 6) (tdArr td κ) (tdPtr td fun a => undK ty a fun ad => tdArr ad κ)
noncomputable def optIs {α : Type} (x : Option α) : Bool := @Option.rec α (fun _ => Bool) false (fun _ => true) x
noncomputable def slK (ty : TyT) (t : TypeId) (lo hi mx : Option Operand) (e : VE) (h : Hp) (v : RV) (κ : RV → Bool) : Bool :=
  @RV.rec (fun _ => TyT → TypeId → Option Operand → Option Operand → Option Operand → VE → Hp → (RV → Bool) → Bool) (fun _ => PUnit) (fun _ _ _ _ _ _ _ _ _ => false) (fun _ _ _ _ _ _ _ _ _ _ => false)
    (fun m i ty t lo hi mx e _ κ => undK ty t fun td => iff (Nat.beq (kindD td) 3) (iff (bOr (optIs mx) (bNot (strB m i))) false (bnd lo 0 e fun l => bnd hi i e fun r => iff (Nat.ble l r) (iff (Nat.ble r i) (natF (Nat.sub r l) fun n => natF (Nat.mod (Nat.div m (Nat.pow 256 l)) (Nat.pow 256 n)) fun m => κ (.str m n)) false) false)) false)
    (fun i off ty t lo hi mx e _ κ => undK ty t fun td => tdArr td fun n el => iff (optIs mx) false (bnd lo 0 e fun l => bnd hi n e fun r => iff (Nat.ble l r) (iff (Nat.ble r n) (sizeK ty el fun sz => natF (Nat.sub r l) fun len => natF (Nat.sub n l) fun cap => iff (Nat.beq cap 0) (κ (.asl i off len cap)) (natF (Nat.add off (Nat.mul l sz)) fun off' => κ (.asl i off' len cap))) false) false))
    (fun _ _ _ _ _ _ _ _ => false) (fun _ _ _ _ _ _ _ _ _ _ => false)
    (fun i off ce len ty t lo hi mx e h κ => undK ty t fun td => tdSlice td fun el => sizeK ty el fun sz => bnd lo 0 e fun l => bnd hi len e fun r => iff (Nat.ble l r)
      (iff (optIs mx) (iff (optIs hi) (bnd mx 0 e fun mm => iff (Nat.ble r mm) (iff (Nat.ble mm len) (natF (Nat.sub r l) fun n => natF (Nat.sub mm l) fun cap => iff (Nat.beq cap 0) (κ (.asl i off n cap)) (natF (Nat.add off (Nat.mul l sz)) fun off' => κ (.asl i off' n cap))) false) false) false)
        (iff (Nat.ble r len) (iff (bOr (Nat.blt l len) (Nat.beq l 0)) (natF (Nat.add off (Nat.mul l sz)) fun off' => natF (Nat.add ce l) fun ce' => natF (Nat.sub r l) fun n => κ (.slc i off' ce' n)) (κ (.emp i off ce l sz)))
          (obRow h i fun _ _ n _ => iff (Nat.ble (Nat.add ce r) n) (iff (Nat.blt l r) (natF (Nat.add off (Nat.mul l sz)) fun off' => natF (Nat.add ce l) fun ce' => natF (Nat.sub r l) fun n => κ (.slc i off' ce' n)) false) false))) false)
    (fun i off len cap ty t lo hi mx e _ κ => undK ty t fun td => tdSlice td fun el => sizeK ty el fun sz => iff (bOr (bNot (optIs mx)) (optIs hi)) (bnd lo 0 e fun l => bnd hi len e fun r => bnd mx cap e fun mm => iff (Nat.ble mm cap) (iff (Nat.ble l r) (iff (Nat.ble r mm) (natF (Nat.sub r l) fun n => natF (Nat.sub mm l) fun cap' => iff (Nat.beq cap' 0) (κ (.asl i off n cap')) (natF (Nat.add off (Nat.mul l sz)) fun off' => κ (.asl i off' n cap'))) false) false) false) false)
    (fun ty t lo hi mx e _ κ => undK ty t fun td => tdSlice td fun el => sizeK ty el fun _ => iff (bOr (bNot (optIs mx)) (optIs hi)) (bnd lo 0 e fun l => bnd hi 0 e fun r => bnd mx 0 e fun mm => iff (Nat.beq l 0) (iff (Nat.beq r 0) (iff (Nat.beq mm 0) (κ .nils) false) false) false) false)
    (fun _ _ _ _ _ _ _ _ => false) (fun _ _ _ _ _ _ _ _ _ => false)
    (fun _ _ _ _ _ _ _ _ _ _ _ _ _ => false) (fun _ _ _ _ _ _ _ _ => false) (fun _ _ _ _ _ _ _ _ _ _ _ => false) (fun _ _ _ _ _ _ _ _ => false) (fun _ _ _ _ _ _ _ _ _ _ => false) (fun _ _ _ _ _ _ _ _ _ _ => false) (fun _ _ _ _ _ _ _ _ _ _ _ _ _ => false) (fun _ _ _ _ _ _ _ _ _ => false) (fun _ _ _ _ _ _ _ _ => false) PUnit.unit (fun _ _ _ _ => PUnit.unit) v ty t lo hi mx e h κ
noncomputable def oSl (t : TypeId) (x : Operand) (lo hi mx : Option Operand) : OpT := fun ty _ e h k _ _ => opd x e fun v => slK ty t lo hi mx e h v fun r => k r h
noncomputable def oFa (s : TypeId) (x : Operand) (f : Nat) : OpT := fun ty _ e h k _ _ => opd x e fun v => rvPtr v fun i off => undK ty s fun td => tdStr td fun fs => nthK fs f fun fd => sizeK ty fd.type fun n => iff (Nat.beq n 0) false (natF (Nat.add off fd.offset) fun o => k (.ptr i o) h)
noncomputable def partK (ty : TyT) (t : TypeId) (cs : List RV) (off : Nat) (κ : RV → Bool) : Bool :=
  undK ty t fun td => iff (aggD td) (sizeK ty t fun n => dropK cs off fun l => takeK l n fun l => κ (.agg l)) (nthK cs off κ)
noncomputable def oFd (s : TypeId) (x : Operand) (f : Nat) : OpT := fun ty _ e h k _ _ => opd x e fun v => rvAgg v fun cs => undK ty s fun td => tdStr td fun fs => nthK fs f fun fd => partK ty fd.type cs fd.offset fun r => k r h
noncomputable def oIa (t : TypeId) (x ix : Operand) : OpT := fun ty _ e h k _ _ => opd x e fun v => opd ix e fun iv => rvInt iv fun _ z => iNat z fun j => undK ty t fun td => iff (Nat.beq (kindD td) 5)
  (tdSlice td fun el => rvSl v fun i off len => iff (Nat.blt j len) (sizeK ty el fun sz => natF (Nat.add off (Nat.mul j sz)) fun o => k (.ptr i o) h) false)
  (tdArr td fun len el => rvPtr v fun i off => iff (Nat.blt j len) (sizeK ty el fun sz => natF (Nat.add off (Nat.mul j sz)) fun o => k (.ptr i o) h) false)
noncomputable def oIx (t : TypeId) (x ix : Operand) : OpT := fun ty _ e h k _ _ => opd x e fun v => opd ix e fun iv => rvInt iv fun _ z => iNat z fun j => undK ty t fun td => iff (Nat.beq (kindD td) 3)
  (rvStr v fun m len => iff (Nat.blt j len) (natF (Nat.mod (Nat.div m (Nat.pow 256 j)) 256) fun b => k (.int .u8 (.ofNat b)) h) false)
  (tdArr td fun len el => rvAgg v fun cs => iff (Nat.blt j len) (sizeK ty el fun sz => partK ty el cs (Nat.mul j sz) fun r => k r h) false)
/-- The number of a value's kind. -/
noncomputable def conN (v : RV) : Nat :=
  @RV.rec (fun _ => Nat) (fun _ => PUnit) (fun _ => 0) (fun _ _ => 1) (fun _ _ => 2) (fun _ _ => 3) (4) (fun _ _ => 5) (fun _ _ _ _ => 6) (fun _ _ _ _ => 7) (8) (9) (fun _ => 10) (fun _ _ _ _ _ => 11) (12) (fun _ _ _ => 13) (14) (fun _ _ => 15) (fun _ _ => 16) (fun _ _ _ _ _ => 17) (fun _ => 18) (19) PUnit.unit (fun _ _ _ _ => PUnit.unit) v
noncomputable def isCon (n : Nat) (v : RV) : Bool := Nat.beq (conN v) n
/-- The same function (of the program)? -/
noncomputable def fnEq (f g : Fn) : Bool := @Fn.rec (fun _ => Fn → Bool) (fun i g => @Fn.rec (fun _ => Bool) (fun j => Nat.beq i j) (fun _ => false) (fun _ _ => false) (fun _ _ _ _ => false) (fun _ => false) g) (fun _ _ => false) (fun _ _ _ => false) (fun _ _ _ _ _ => false) (fun _ _ => false) f g
/-- Are they the same? -/
noncomputable def rvEq (x : RV) : RV → Bool :=
  @RV.rec (fun _ => RV → Bool) (fun _ => List RV → Bool)
    (fun a0 y => rvBool y fun b => bEq a0 b)
    (fun a0 a1 y => rvInt y fun k b => iff (ikEq a0 k) (iEq a1 b) false)
    (fun a0 a1 y => rvStrQ y fun n j => iff (Nat.beq a0 n) (Nat.beq a1 j) false)
    (fun a0 a1 y => rvPtr y fun i j => iff (Nat.beq a0 i) (Nat.beq a1 j) false)
    (fun y => isCon 4 y)
    (fun a0 a1 y => rvGlob y fun i j => iff (Nat.beq a0 i) (Nat.beq a1 j) false)
    (fun a0 a1 a2 a3 y => rvSlc y fun b0 b1 b2 b3 => iff (Nat.beq a0 b0) (iff (Nat.beq a1 b1) (iff (Nat.beq a2 b2) (Nat.beq a3 b3) false) false) false)
    (fun a0 a1 a2 a3 y => rvAsl y fun b0 b1 b2 b3 => iff (Nat.beq a0 b0) (iff (Nat.beq a1 b1) (iff (Nat.beq a2 b2) (Nat.beq a3 b3) false) false) false)
    (fun y => isCon 8 y)
    (fun y => isCon 9 y)
    (fun a0 y => rvMap y fun i => Nat.beq a0 i)
    (fun a0 _ _ ih1 ih2 y => rvFn y fun f a b => iff (fnEq a0 f) (iff (ih1 a) (ih2 b) false) false)
    (fun y => isCon 12 y)
    (fun a0 _ ih1 y => rvIfc y fun t v => iff (Nat.beq a0 t) (ih1 v) false)
    (fun y => isCon 14 y)
    (fun _ ih0 y => rvAgg y ih0)
    (fun _ ih0 y => rvTup y ih0)
    (fun _ _ _ _ _ _ => false)
    (fun a0 y => rvYld y fun i => Nat.beq a0 i)
    (fun y => isCon 19 y)
    (fun l => @List.rec RV (fun _ => Bool) true (fun _ _ _ => false) l) (fun _ _ ih1 ih2 l => @List.rec RV (fun _ => Bool) false (fun b m _ => iff (ih1 b) (ih2 m) false) l) x
/-- Keys: bools, integers, texts. -/
noncomputable def keyK (ty : TyT) (kt : TypeId) (κ : Nat → Bool) : Bool := undK ty kt fun kd => natF (kindD kd) fun d => iff (Nat.ble d 3) (iff (Nat.ble 1 d) (κ d) false) false
noncomputable def mpGet (kd : Nat) (key : RV) (es : List (RV × RV × Nat)) (no : Bool) (κ : RV → Bool) : Bool :=
  @List.rec (RV × RV × Nat) (fun _ => Bool) no (fun en _ ih => eqS kd key en.1 fun b => iff b (κ en.2.1) ih) es
noncomputable def mpSet (kd : Nat) (key val : RV) (c : Nat) (es : List (RV × RV × Nat)) : (Nat → List (RV × RV × Nat) → Bool) → Bool :=
  @List.rec (RV × RV × Nat) (fun _ => (Nat → List (RV × RV × Nat) → Bool) → Bool) (fun κ => natF (Nat.succ c) fun c' => κ c' [(key, val, c)])
    (fun en tl ih κ => eqS kd key en.1 fun b => iff b (iff (rvEq key en.1) (κ c ((key, val, en.2.2) :: tl)) false) (ih fun c' r => κ c' (en :: r))) es
/-- Where a key stands, and what stands there; or 'no'. -/
noncomputable def mpFind (kd : Nat) (key : RV) (es : List (RV × RV × Nat)) (no : Bool) (κ : RV → Nat → Bool) : Bool :=
  @List.rec (RV × RV × Nat) (fun _ => Bool) no (fun en _ ih => eqS kd key en.1 fun b => iff b (iff (rvEq key en.1) (κ en.2.1 en.2.2) false) ih) es
noncomputable def mapEs (h : Hp) (v : RV) (κ : List (RV × RV × Nat) → Bool) : Bool :=
  @RV.rec (fun _ => Hp → (List (RV × RV × Nat) → Bool) → Bool) (fun _ => PUnit) (fun _ _ _ => false) (fun _ _ _ _ => false) (fun _ _ _ _ => false) (fun _ _ _ _ => false) (fun _ _ => false) (fun _ _ _ _ => false) (fun _ _ _ _ _ _ => false) (fun _ _ _ _ _ _ => false) (fun _ _ => false) (fun _ κ => κ []) (fun i h κ => obMap h i fun _ es => κ es)
    (fun _ _ _ _ _ _ _ => false) (fun _ _ => false) (fun _ _ _ _ _ => false) (fun _ _ => false) (fun _ _ _ _ => false) (fun _ _ _ _ => false) (fun _ _ _ _ _ _ _ => false) (fun _ _ _ => false) (fun _ _ => false) PUnit.unit (fun _ _ _ _ => PUnit.unit) v h κ
noncomputable def oLook (t : TypeId) (x ix : Operand) (ok : Bool) : OpT := fun ty _ e h k _ _ => opd x e fun v => opd ix e fun key => undK ty t fun td => tdMap td fun kt et => keyK ty kt fun kd => mapEs h v fun es =>
  mpGet kd key es (zeroK ty et fun z => iff ok (k (.tup [z, .bool false]) h) (k z h)) fun r => iff ok (k (.tup [r, .bool true]) h) (k r h)
noncomputable def oUpd (t : TypeId) (m ix x : Operand) : OpT := fun ty _ e h k _ _ => opd m e fun mv => opd ix e fun key => opd x e fun v => undK ty t fun td => tdMap td fun kt _ => keyK ty kt fun kd => rvMap mv fun i => obMap h i fun c es => mpSet kd key v c es fun c' es' => setO i (.mp c' es') h fun h' => k undefR h'
noncomputable def oTA (x : Operand) (at_ : TypeId) (ok : Bool) : OpT := fun ty _ e h k _ _ => opd x e fun v => undK ty at_ fun d => iff (Nat.beq (kindD d) 10) false
  (@RV.rec (fun _ => TyT → TypeId → Bool → Hp → K → Bool) (fun _ => PUnit) (fun _ _ _ _ _ _ => false) (fun _ _ _ _ _ _ _ => false) (fun _ _ _ _ _ _ _ => false) (fun _ _ _ _ _ _ _ => false) (fun _ _ _ _ _ => false) (fun _ _ _ _ _ _ _ => false) (fun _ _ _ _ _ _ _ _ _ => false) (fun _ _ _ _ _ _ _ _ _ => false) (fun _ _ _ _ _ => false) (fun _ _ _ _ _ => false) (fun _ _ _ _ _ _ => false)
    (fun _ _ _ _ _ _ _ _ _ _ => false) (fun _ _ _ _ _ => false) (fun t w _ ty a ok h k => iff (Nat.beq t a) (iff ok (k (.tup [w, .bool true]) h) (k w h)) (iff ok (zeroK ty a fun z => k (.tup [z, .bool false]) h) false)) (fun ty a ok h k => iff ok (zeroK ty a fun z => k (.tup [z, .bool false]) h) false) (fun _ _ _ _ _ _ _ => false) (fun _ _ _ _ _ _ _ => false) (fun _ _ _ _ _ _ _ _ _ _ => false) (fun _ _ _ _ _ _ => false) (fun _ _ _ _ _ => false) PUnit.unit (fun _ _ _ _ => PUnit.unit) v ty at_ ok h k)
noncomputable def oExt (t : Operand) (i : Nat) : OpT := fun _ _ e h k _ _ => opd t e fun v => rvTup v fun l => nthK l i fun r => k r h

/-! ### Calls -/
noncomputable def lenR (kd : Nat) (v : RV) (h : Hp) (κ : Nat → Bool) : Bool :=
  @RV.rec (fun _ => Nat → Hp → (Nat → Bool) → Bool) (fun _ => PUnit) (fun _ _ _ _ => false) (fun _ _ _ _ _ => false) (fun a0 a1 kd _ κ => iff (Nat.beq kd 3) (iff (strB a0 a1) (κ a1) false) false) (fun _ _ _ _ _ => false) (fun _ _ _ => false) (fun _ _ _ _ _ => false) (fun _ _ _ a3 kd _ κ => iff (Nat.beq kd 5) (κ a3) false) (fun _ _ a2 _ kd _ κ => iff (Nat.beq kd 5) (κ a2) false) (fun kd _ κ => iff (Nat.beq kd 5) (κ 0) false) (fun kd _ κ => iff (Nat.beq kd 7) (κ 0) false) (fun i kd h κ => iff (Nat.beq kd 7) (obMap h i fun _ es => lenK es κ) false) (fun _ _ _ _ _ _ _ _ => false) (fun _ _ _ => false) (fun _ _ _ _ _ _ => false) (fun _ _ _ => false) (fun _ _ _ _ _ => false) (fun _ _ _ _ _ => false) (fun _ _ _ _ _ kd _ κ => iff (Nat.beq kd 5) (κ 0) false) (fun _ _ _ _ => false) (fun _ _ _ => false) PUnit.unit (fun _ _ _ _ => PUnit.unit) v kd h κ
noncomputable def isNils (v : RV) : Bool :=
  @RV.rec (fun _ => Bool) (fun _ => PUnit) (fun _ => false) (fun _ _ => false) (fun _ _ => false) (fun _ _ => false) false (fun _ _ => false) (fun _ _ _ _ => false) (fun _ _ _ _ => false) true false (fun _ => false) (fun _ _ _ _ _ => false) false (fun _ _ _ => false) false (fun _ _ => false) (fun _ _ => false) (fun _ _ _ _ _ => false) (fun _ => false) false PUnit.unit (fun _ _ _ _ => PUnit.unit) v
abbrev BltT := TyT → Array TypeId → List RV → Hp → K → Bool
noncomputable def noBlt : BltT := fun _ _ _ _ _ => false
noncomputable def bltLen : BltT := fun ty ats args h k => nthK ats.toList 0 fun t => undK ty t fun td => nthK args 0 fun v => lenR (kindD td) v h fun n => k (.int .i64 (.ofNat n)) h
noncomputable def bltMin : BltT := fun _ _ args h k => iff (lenIs args 2) (nthK args 0 fun v => nthK args 1 fun u => rvInt v fun j a => rvInt u fun l b => iff (ikEq j l) (iff (iLt b a) (k (.int j b) h) (k (.int j a) h)) false) false
noncomputable def bltMax : BltT := fun _ _ args h k => iff (lenIs args 2) (nthK args 0 fun v => nthK args 1 fun u => rvInt v fun j a => rvInt u fun l b => iff (ikEq j l) (iff (iLt a b) (k (.int j b) h) (k (.int j a) h)) false) false
/-- What an append takes: a slice's cells, or a text's bytes. -/
noncomputable def srcCells (ty : TyT) (at_ : List TypeId) (h : Hp) (sz : Nat) (v : RV) (κ : Nat → List RV → Bool) : Bool :=
  nthK at_ 1 fun t => undK ty t fun d => iff (Nat.beq (kindD d) 3) (iff (Nat.beq sz 1) (rvStr v fun m i => cellsOfStr i m fun l => κ i l) false) (iff (Nat.beq (kindD d) 5) (slCells h sz v κ) false)
noncomputable def appTo (v : RV) (h : Hp) (el : TypeId) (sz : Nat) (m : Nat) (cs : List RV) (k : K) : Bool :=
  @RV.rec (fun _ => Hp → TypeId → Nat → Nat → List RV → K → Bool) (fun _ => PUnit) (fun _ _ _ _ _ _ _ => false) (fun _ _ _ _ _ _ _ _ => false) (fun _ _ _ _ _ _ _ _ => false) (fun _ _ _ _ _ _ _ _ => false) (fun _ _ _ _ _ _ => false) (fun _ _ _ _ _ _ _ _ => false)
    (fun i off ce len h el sz m cs k => obRow h i fun e' s' n old => natF (Nat.add len m) fun lm => iff (Nat.ble (Nat.add ce lm) n)
      (spliceK old (Nat.add off (Nat.mul len sz)) cs fun all => setO i (.row e' s' n all) h fun h' => k (.slc i off ce lm) h')
      (iff (Nat.beq off 0) (iff (Nat.beq ce 0) (iff (Nat.beq e' el) (iff (Nat.beq s' sz) (iff (Nat.ble len n) (iff (Nat.ble lm 1000000) (takeK old (Nat.mul len sz) fun old => appK old cs fun all => setO i .no h fun h' => push (.row el sz lm all) h' fun j h'' => k (.slc j 0 0 lm) h'') false) false) false) false) false) false))
    (fun i off len cap h el sz m cs k => iff (Nat.ble cap len) (obK h i fun old => dropK old off fun old => takeK old (Nat.mul len sz) fun old => appK old cs fun all => natF (Nat.add len m) fun lm => iff (Nat.ble lm 1000000) (push (.row el sz lm all) h fun j h' => k (.slc j 0 0 lm) h') false) false)
    (fun h el sz m cs k => push (.row el sz m cs) h fun j h' => k (.slc j 0 0 m) h') (fun _ _ _ _ _ _ => false) (fun _ _ _ _ _ _ _ => false)
    (fun _ _ _ _ _ _ _ _ _ _ _ => false) (fun _ _ _ _ _ _ => false) (fun _ _ _ _ _ _ _ _ _ => false) (fun _ _ _ _ _ _ => false) (fun _ _ _ _ _ _ _ _ => false) (fun _ _ _ _ _ _ _ _ => false) (fun _ _ _ _ _ _ _ _ _ _ _ => false) (fun _ _ _ _ _ _ _ => false) (fun _ _ _ _ _ _ => false) PUnit.unit (fun _ _ _ _ => PUnit.unit) v h el sz m cs k
noncomputable def bltClr : BltT := fun ty ats args h k => nthK ats.toList 0 fun t => undK ty t fun td => tdSlice td fun el => sizeK ty el fun sz => nthK args 0 fun v => iff (isNils v) (k undefR h)
  (rvSl v fun i off len => zeroK ty el fun z => repK (cellsR z) len fun cs => iff (allOne cs) (obM h i fun old mk => spliceK old off cs fun all => setO i (mk all) h fun h' => k undefR h') false)
/-- A slice whose length is within its capacity. -/
noncomputable def capOk (x : RV) : Bool := bOr (isCon 6 x) (bOr (isCon 8 x) (iff (isCon 7 x) (rvAsl x fun _ _ len cap => Nat.ble len cap) false))
noncomputable def bltApp : BltT := fun ty ats args h k => nthK ats.toList 0 fun t => undK ty t fun td => tdSlice td fun el => sizeK ty el fun sz => iff (Nat.ble 1 sz) (iff (Nat.ble sz 1024) (iff (bAnd (lenIs args 2) (lenIs ats.toList 2)) (nthK args 0 fun x => nthK args 1 fun y => srcCells ty ats.toList h sz y fun m cs =>
  iff (Nat.beq m 0) (iff (capOk x) (k x h) false) (iff (allOne cs) (iff (Nat.ble m 100000) (appTo x h el sz m cs k) false) false)) false) false) false
noncomputable def bltR (b : Builtin) : BltT :=
  @Builtin.rec (fun _ => BltT) bltApp noBlt bltClr noBlt noBlt noBlt noBlt noBlt bltLen noBlt bltMax bltMin noBlt noBlt noBlt noBlt noBlt noBlt noBlt noBlt noBlt noBlt noBlt noBlt noBlt noBlt b
noncomputable def callV (call : CallT) (v : RV) (args : List RV) (h : Hp) (k : K) (kp : KP) : Bool :=
  @RV.rec (fun _ => CallT → List RV → Hp → K → KP → Bool) (fun _ => PUnit) (fun _ _ _ _ _ _ => false) (fun _ _ _ _ _ _ _ => false) (fun _ _ _ _ _ _ _ => false) (fun _ _ _ _ _ _ _ => false) (fun _ _ _ _ _ => false) (fun _ _ _ _ _ _ _ => false) (fun _ _ _ _ _ _ _ _ _ => false) (fun _ _ _ _ _ _ _ _ _ => false) (fun _ _ _ _ _ => false) (fun _ _ _ _ _ => false) (fun _ _ _ _ _ _ => false)
    (fun f a b _ _ call args h k kp => @Fn.rec (fun _ => List RV → List RV → CallT → List RV → Hp → K → KP → Bool) (fun f a b call args h k kp => appK args b fun r => appK a r fun r => call false f r h k kp) (fun _ _ _ _ _ _ _ _ => false) (fun _ _ _ _ _ _ _ _ _ => false) (fun _ _ _ _ _ _ _ _ _ _ _ => false) (fun _ _ _ _ _ _ _ _ => false) f a b call args h k kp)
    (fun _ _ _ _ _ => false) (fun _ _ _ _ _ _ _ _ => false) (fun _ _ _ _ _ => false) (fun _ _ _ _ _ _ _ => false) (fun _ _ _ _ _ _ _ => false) (fun _ _ _ _ _ _ _ _ _ _ => false) (fun i call args h k kp => call true i args h k kp) (fun _ _ _ _ _ => false) PUnit.unit (fun _ _ _ _ => PUnit.unit) v call args h k kp
/-- A call of a function's value. -/
noncomputable def callF (call : CallT) (v : RV) (args : List RV) (h : Hp) (k : K) (kp : KP) : Bool :=
  @RV.rec (fun _ => CallT → List RV → Hp → K → KP → Bool) (fun _ => PUnit) (fun _ _ _ _ _ _ => false) (fun _ _ _ _ _ _ _ => false) (fun _ _ _ _ _ _ _ => false) (fun _ _ _ _ _ _ _ => false) (fun _ _ _ _ _ => false) (fun _ _ _ _ _ _ _ => false) (fun _ _ _ _ _ _ _ _ _ => false) (fun _ _ _ _ _ _ _ _ _ => false) (fun _ _ _ _ _ => false) (fun _ _ _ _ _ => false) (fun _ _ _ _ _ _ => false)
    (fun f a b _ _ call args h k kp => @Fn.rec (fun _ => List RV → List RV → CallT → List RV → Hp → K → KP → Bool) (fun f a b call args h k kp => appK args b fun r => appK a r fun r => call false f r h k kp) (fun _ _ _ _ _ _ _ _ => false) (fun _ _ _ _ _ _ _ _ _ => false) (fun _ _ _ _ _ _ _ _ _ _ _ => false) (fun _ _ _ _ _ _ _ _ => false) f a b call args h k kp)
    (fun _ _ _ _ _ => false) (fun _ _ _ _ _ _ _ _ => false) (fun _ _ _ _ _ => false) (fun _ _ _ _ _ _ _ => false) (fun _ _ _ _ _ _ _ => false) (fun _ _ _ _ _ _ _ _ _ _ => false) (fun _ _ _ _ _ _ => false) (fun _ _ _ _ _ => false) PUnit.unit (fun _ _ _ _ => PUnit.unit) v call args h k kp
noncomputable def oCall (c : Call) : OpT := fun ty call e h k _ kp => opds c.args.toList e fun args =>
  @Callee.rec (fun _ => TyT → CallT → VE → Hp → K → KP → Array TypeId → List RV → Bool)
    (fun f _ call e h k kp _ args => @Operand.rec (fun _ => CallT → VE → Hp → K → KP → List RV → Bool) (fun t call e h k kp args => e.getK undefR t fun v => callV call v args h k kp) (fun _ _ _ _ _ _ _ => false) (fun _ _ _ _ _ _ _ => false) (fun f call _ h k kp args => call false f args h k kp) f call e h k kp args)
    (fun _ _ _ _ _ _ _ _ _ _ => false) (fun b ty _ _ h k _ ats args => bltR b ty ats args h k) c.callee ty call e h k kp c.argTypes args
noncomputable def oPanic (x : Operand) : OpT := fun _ _ e h _ _ kp => opd x e fun v => rvIfc v fun t w => kp (.ifc t w) h
/-! Texts and maps, thing by thing -/
noncomputable def obIt (h : Hp) (i : Nat) (κ : Nat → Nat → Nat → Bool) : Bool :=
  h.t.getK .no i fun o => @Ob.rec (fun _ => (Nat → Nat → Nat → Bool) → Bool) (fun _ => false) (fun _ _ _ => false) (fun _ _ _ _ _ => false) (fun _ _ _ => false) (fun n l p κ => κ n l p) (fun _ _ _ _ _ => false) (fun _ => false) (fun _ _ _ _ _ _ _ _ _ => false) o κ
noncomputable def obMit (h : Hp) (i : Nat) (κ : Option Nat → Nat → List Nat → Nat → Bool) : Bool :=
  h.t.getK .no i fun o => @Ob.rec (fun _ => (Option Nat → Nat → List Nat → Nat → Bool) → Bool) (fun _ => false) (fun _ _ _ => false) (fun _ _ _ _ _ => false) (fun _ _ _ => false) (fun _ _ _ _ => false) (fun m s l t κ => κ m s l t) (fun _ => false) (fun _ _ _ _ _ _ _ _ _ => false) o κ
noncomputable def oRng (t : TypeId) (x : Operand) : OpT := fun ty _ e h k _ _ => opd x e fun v => undK ty t fun td => iff (Nat.beq (kindD td) 3) (rvStr v fun m n => push (.it m n 0) h fun i h' => k (.ptr i 0) h')
  (tdMap td fun _ _ => rvMap v fun m => obMap h m fun c _ => push (.mit (some m) c [] c) h fun i h' => k (.ptr i 0) h')
noncomputable def overR : RV := .tup [.bool false]
noncomputable def oNxt (it : Operand) (s : Bool) : OpT := fun _ _ e h k _ _ => opd it e fun v => rvPtr v fun i off => iff (Nat.beq off 0) (iff s
  (obIt h i fun m n p => iff (Nat.blt p n) (natF (Nat.mod (Nat.div m (Nat.pow 256 p)) 256) fun b => iff (Nat.blt b 128) (natF (Nat.succ p) fun p' => setO i (.it m n p') h fun h' => k (.tup [.bool true, .int .i64 (.ofNat p), .int .i32 (.ofNat b)]) h') false) (k overR h))
  (obMit h i fun m since seen last => @Option.rec Nat (fun _ => Bool) false (fun j => obMap h j fun clock es => @List.rec (RV × RV × Nat) (fun _ => Bool) (@List.rec Nat (fun _ => Bool) (iff (Nat.ble since last) (k overR h) false) (fun _ _ _ => false) seen)
    (fun en tl _ => @List.rec (RV × RV × Nat) (fun _ => Bool) (iff (Nat.blt en.2.2 since) (iff (Nat.ble since last) (@List.rec Nat (fun _ => Bool) (setO i (.mit m since [en.2.2] clock) h fun h' => k (.tup [.bool true, en.1, en.2.1]) h') (fun s tl _ => iff (Nat.beq s en.2.2) (@List.rec Nat (fun _ => Bool) (k overR h) (fun _ _ _ => false) tl) false) seen) false) false) (fun _ _ _ => false) tl) es) m)) false
noncomputable def oEnt (it : Operand) : OpT := fun _ _ e h k _ _ => opd it e fun v => rvPtr v fun i off => iff (Nat.beq off 0) (obMit h i fun m _ seen last => @Option.rec Nat (fun _ => Bool) false (fun j => obMap h j fun clock es => iff (Nat.beq clock last)
  (@List.rec Nat (fun _ => Bool) false (fun s tl _ => @List.rec Nat (fun _ => Bool) (@List.rec (RV × RV × Nat) (fun _ => Bool) false (fun en _ ih => iff (Nat.beq en.2.2 s) (k (.tup [en.1, en.2.1]) h) ih) es) (fun _ _ _ => false) tl) seen) false) m) false
noncomputable def oMpE (t : TypeId) (m ix : Operand) : OpT := fun ty _ e h k _ _ => opd m e fun mv => opd ix e fun key => undK ty t fun td => tdMap td fun kt et => keyK ty kt fun kd => rvMap mv fun i => obMap h i fun c es =>
  mpFind kd key es (zeroK ty et fun z => mpSet kd key z c es fun c' es' => setO i (.mp c' es') h fun h' => k (.tup [z, .int .i64 (.ofNat c)]) h') fun r j => k (.tup [r, .int .i64 (.ofNat j)]) h
noncomputable def mpBorn (s : Nat) (val : RV) (es : List (RV × RV × Nat)) : (List (RV × RV × Nat) → Bool) → Bool :=
  @List.rec (RV × RV × Nat) (fun _ => (List (RV × RV × Nat) → Bool) → Bool) (fun _ => false) (fun en tl ih κ => iff (Nat.beq en.2.2 s) (κ ((en.1, val, en.2.2) :: tl)) (ih fun r => κ (en :: r))) es
noncomputable def oEntS (m st x : Operand) : OpT := fun _ _ e h k _ _ => opd m e fun mv => opd st e fun sv => opd x e fun v => rvMap mv fun i => rvInt sv fun _ n => iNat n fun s => obMap h i fun c es => mpBorn s v es fun es' => setO i (.mp c es') h fun h' => k undefR h'
noncomputable def oDefer (c : Call) : OpT := fun _ _ e _ _ kd _ => opds c.args.toList e fun args =>
  @Callee.rec (fun _ => List RV → (DV → Bool) → Bool) (fun f args kd => @Operand.rec (fun _ => List RV → (DV → Bool) → Bool) (fun _ _ _ => false) (fun _ _ _ => false) (fun _ _ _ => false) (fun f args kd => kd (.fn f args)) f args kd) (fun _ _ _ _ => false) (fun _ _ _ => false) c.callee args kd
noncomputable def noOp : OpT := fun _ _ _ _ _ _ _ => false
noncomputable def evOp (op : Op) : OpT :=
  @Op.rec (fun _ => OpT) oMove oMove oPick oAlloc oBox oBuild oBuildSl oUpd oLoad oStore (fun _ => noOp) (fun _ => noOp) oNil (fun op t x y _ => oBin op t x y) (fun op _ x => oUn op x) oConv (fun _ _ => noOp) oMkI oMkF oMkMap (fun _ _ => noOp) oMkSl oSl oFa oFd oIa oIx oLook oUpd oMpE (fun _ m s x => oEntS m s x) oRng oNxt oEnt
    (fun x _ a ok => oTA x a ok) oExt oCall (fun _ => noOp) oDefer oPanic (fun _ _ => noOp) (fun _ _ _ => noOp) (fun _ _ => noOp) op

/-! ### Code -/
inductive EX where
  | ext (id : Nat)
  | gt (l : Nat)
  | ret
  | pan (v : RV)
abbrev KN := VE → Ds → Hp → Bool
abbrev KX := EX → VE → Ds → Hp → Bool
noncomputable def putK (dst : Option Tmp) (n : Nat) (v : RV) (e : VE) (κ : VE → Bool) : Bool := @Option.rec Tmp (fun _ => Bool) (κ e) (fun t => iff (Nat.blt t n) (Tr.set v e t κ) false) dst
/-- What a guard's operation yielded. -/
noncomputable def rvGd (v : RV) : (Bool → Bool) → Bool → Bool :=
  @RV.rec (fun _ => (Bool → Bool) → Bool → Bool) (fun _ => PUnit) (fun b κ _ => κ b) (fun _ _ _ _ => false) (fun _ _ _ _ => false) (fun _ _ _ _ => false) (fun _ _ => false) (fun _ _ _ _ => false) (fun _ _ _ _ _ _ => false) (fun _ _ _ _ _ _ => false) (fun _ _ => false) (fun _ _ => false) (fun _ _ _ => false)
    (fun _ _ _ _ _ _ _ => false) (fun _ _ => false) (fun _ _ _ _ _ => false) (fun _ _ => false) (fun _ _ _ _ => false) (fun _ _ _ _ => false) (fun _ _ _ _ _ _ _ => false) (fun _ _ _ => false) (fun _ s => s) PUnit.unit (fun _ _ _ _ => PUnit.unit) v
noncomputable def guardK (g : Option (Nat × Bool)) (all : List Oper) (e : VE) (run skip : Bool) : Bool :=
  @Option.rec (Nat × Bool) (fun _ => Bool) run (fun g => nthK all g.1 fun o => @Option.rec Tmp (fun _ => Bool) false (fun t => e.getK undefR t fun v => rvGd v (fun b => iff (bEq b g.2) run skip) skip) o.dst) g
noncomputable def evOps (l : List Oper) : List Oper → Nat → TyT → CallT → Bool → VE → Ds → Hp → KN → KX → Bool :=
  @List.rec Oper (fun _ => List Oper → Nat → TyT → CallT → Bool → VE → Ds → Hp → KN → KX → Bool) (fun _ _ _ _ _ e d h kn _ => kn e d h)
    (fun o _ ih all n ty call nr e d h kn kx => guardK o.guard all e
      (evOp o.op ty call e h (fun v h' => putK o.dst n v e fun e' => ih all n ty call nr e' d h' kn kx) (fun dv => iff nr (putK o.dst n undefR e fun e' => ih all n ty call nr e' (dv :: d) h kn kx) false) (fun v h' => kx (.pan v) e d h'))
      (putK o.dst n .skp e fun e' => ih all n ty call nr e' d h kn kx)) l

/-! ### Regions that draw their order -/
/-- Something that was made within the region, and that nothing else has yet seen: its number, what it is, which operations have made it so. -/
structure Fl where
  N : Nat
  ob : Ob
  st : List Nat
/-- What was read, and may be read again. -/
structure Pd where
  i : Nat
  o : Oper
  e : VE
  r : RV
noncomputable def anyIn (l A : List Nat) : Bool := @List.rec Nat (fun _ => Bool) false (fun a _ ih => iff (memN A a) true ih) l
noncomputable def allIn (l A : List Nat) : Bool := @List.rec Nat (fun _ => Bool) true (fun a _ ih => iff (memN A a) ih false) l
noncomputable def flDep (fl : List Fl) (A : List Nat) : Bool := @List.rec Fl (fun _ => Bool) false (fun f _ ih => iff (anyIn f.st A) true ih) fl
/-- Those that are waited for join the others. -/
noncomputable def flJoin (fl : List Fl) (A : List Nat) : Hp → (List Fl → Hp → Bool) → Bool :=
  @List.rec Fl (fun _ => Hp → (List Fl → Hp → Bool) → Bool) (fun h κ => κ [] h)
    (fun f _ ih h κ => iff (anyIn f.st A) (iff (allIn f.st A) (setO f.N f.ob h fun h => ih h κ) false) (ih h fun r h => κ (f :: r) h)) fl
noncomputable def flAll (fl : List Fl) : Hp → (Hp → Bool) → Bool := @List.rec Fl (fun _ => Hp → (Hp → Bool) → Bool) (fun h κ => κ h) (fun f _ ih h κ => setO f.N f.ob h fun h => ih h κ) fl
/-- A store into one of them. -/
noncomputable def flFind (fl : List Fl) (N : Nat) (no : Bool) (κ : Fl → (Fl → List Fl) → Bool) : Bool :=
  @List.rec Fl (fun _ => Bool → (Fl → (Fl → List Fl) → Bool) → Bool) (fun no _ => no) (fun f tl ih no κ => iff (Nat.beq f.N N) (κ f fun g => g :: tl) (ih no fun x mk => κ x fun g => f :: mk g)) fl no κ
noncomputable def lookPast (ty : TyT) (call : CallT) (o : Oper) (r : RV) (A : List Nat) (e : VE) (past : List (Nat × Hp)) (κ : Bool) : Bool :=
  @List.rec (Nat × Hp) (fun _ => Bool) κ (fun p _ ih => iff (memN A p.1) κ (evOp o.op ty call e p.2 (fun v _ => iff (rvEq v r) ih false) (fun _ => false) (fun _ _ => false))) past
noncomputable def pdAgain (ty : TyT) (call : CallT) (A : List Nat) (h : Hp) (pd : List Pd) : (List Pd → Bool) → Bool :=
  @List.rec Pd (fun _ => (List Pd → Bool) → Bool) (fun κ => κ []) (fun p _ ih κ => iff (memN A p.i) (ih κ) (evOp p.o.op ty call p.e h (fun v _ => iff (rvEq v p.r) (ih fun r => κ (p :: r)) false) (fun _ => false) (fun _ _ => false))) pd
/-- Everything that is named has a number below. -/
noncomputable def rvLt (v : RV) : Nat → Bool :=
  @RV.rec (fun _ => Nat → Bool) (fun _ => Nat → Bool) (fun _ _ => true) (fun _ _ _ => true) (fun m n k => iff (strB m n) true (Nat.blt m k)) (fun i _ k => Nat.blt i k) (fun _ => true) (fun _ _ _ => true) (fun i _ _ _ k => Nat.blt i k) (fun i _ _ _ k => Nat.blt i k) (fun _ => true) (fun _ => true) (fun i k => Nat.blt i k)
    (fun _ _ _ iha ihb k => iff (iha k) (ihb k) false) (fun _ => true) (fun _ _ ih k => ih k) (fun _ => true) (fun _ ih k => ih k) (fun _ ih k => ih k) (fun i _ _ _ _ k => Nat.blt i k) (fun i k => Nat.blt i k) (fun _ => true)
    (fun _ => true) (fun _ _ ih1 ih2 k => iff (ih1 k) (ih2 k) false) v
/-- Do they all read the same there? -/
noncomputable def pdOk (ty : TyT) (call : CallT) (A : List Nat) (h : Hp) (pd : List Pd) : Bool :=
  @List.rec Pd (fun _ => Bool) true (fun p _ ih => iff (memN A p.i) ih (evOp p.o.op ty call p.e h (fun v _ => iff (rvEq v p.r) ih false) (fun _ => false) (fun _ _ => false))) pd
noncomputable def isNo (o : Ob) : Bool := @Ob.rec (fun _ => Bool) true (fun _ _ => false) (fun _ _ _ _ => false) (fun _ _ => false) (fun _ _ _ => false) (fun _ _ _ _ => false) false (fun _ _ _ _ _ _ _ _ => false) o
/-- None of them is there. -/
noncomputable def noFl (h : Hp) (fl : List Fl) : Bool := @List.rec Fl (fun _ => Bool) true (fun f _ ih => h.t.getK .no f.N fun o => iff (isNo o) ih false) fl
/-- 0: depends on its operands alone; 1: looks; 2: makes; 3: a store; 4: anything else. -/
noncomputable def clsK (ty : TyT) (op : Op) (κ : Nat → Bool) : Bool :=
  @Op.rec (fun _ => TyT → (Nat → Bool) → Bool) (fun _ _ κ => κ 0) (fun _ _ κ => κ 0) (fun _ _ _ _ κ => κ 0) (fun _ _ κ => κ 2) (fun _ _ _ κ => κ 2) (fun _ _ _ κ => κ 0) (fun _ _ _ _ κ => κ 2) (fun _ _ _ _ _ κ => κ 3) (fun _ _ _ κ => κ 1) (fun _ _ _ _ κ => κ 3) (fun _ _ κ => κ 4) (fun _ _ κ => κ 4) (fun _ _ κ => κ 0) (fun _ _ _ _ _ _ κ => κ 0) (fun _ _ _ _ κ => κ 0)
    (fun _ d _ ty κ => undK ty d fun td => iff (Nat.beq (kindD td) 5) (κ 4) (κ 1)) (fun _ _ _ κ => κ 4) (fun _ _ _ κ => κ 0) (fun _ _ _ _ κ => κ 0) (fun _ _ _ κ => κ 2) (fun _ _ _ κ => κ 4) (fun _ _ _ _ κ => κ 4) (fun _ _ _ _ _ _ κ => κ 1) (fun _ _ _ _ κ => κ 0) (fun _ _ _ _ κ => κ 0) (fun _ _ _ _ κ => κ 0) (fun _ _ _ _ κ => κ 0) (fun _ _ _ _ _ κ => κ 1) (fun _ _ _ _ _ κ => κ 4)
    (fun _ _ _ _ κ => κ 4) (fun _ _ _ _ _ κ => κ 4) (fun _ _ _ κ => κ 4) (fun _ _ _ κ => κ 4) (fun _ _ κ => κ 4) (fun _ _ _ _ _ κ => κ 1) (fun _ _ _ κ => κ 0)
    (fun c _ κ => @Callee.rec (fun _ => (Nat → Bool) → Bool) (fun _ κ => κ 4) (fun _ _ κ => κ 4) (fun b κ => κ (@Builtin.rec (fun _ => Nat) 4 4 4 4 4 4 4 4 1 4 0 0 4 4 4 4 4 4 4 4 4 4 4 4 4 4 b)) c.callee κ)
    (fun _ _ κ => κ 4) (fun _ _ κ => κ 4) (fun _ _ κ => κ 4) (fun _ _ _ κ => κ 4) (fun _ _ _ _ κ => κ 4) (fun _ _ _ κ => κ 4) op ty κ
noncomputable def stAddr (op : Op) (e : VE) (no : Bool) (κ : Nat → Bool) : Bool :=
  @Op.rec (fun _ => VE → Bool → (Nat → Bool) → Bool) (fun _ _ no _ => no) (fun _ _ no _ => no) (fun _ _ _ _ no _ => no) (fun _ _ no _ => no) (fun _ _ _ no _ => no) (fun _ _ _ no _ => no) (fun _ _ _ _ no _ => no) (fun _ m _ _ e no κ => opd m e fun p => iff (isCon 10 p) (rvMap p fun i => κ i) no) (fun _ _ _ no _ => no)
    (fun _ a _ e no κ => opd a e fun p => iff (isCon 3 p) (rvPtr p fun i _ => κ i) no) (fun _ _ no _ => no) (fun _ _ no _ => no) (fun _ _ no _ => no) (fun _ _ _ _ _ _ no _ => no) (fun _ _ _ _ no _ => no)
    (fun _ _ _ _ no _ => no) (fun _ _ _ no _ => no) (fun _ _ _ no _ => no) (fun _ _ _ _ no _ => no) (fun _ _ _ no _ => no) (fun _ _ _ no _ => no) (fun _ _ _ _ no _ => no) (fun _ _ _ _ _ _ no _ => no) (fun _ _ _ _ no _ => no) (fun _ _ _ _ no _ => no) (fun _ _ _ _ no _ => no) (fun _ _ _ _ no _ => no) (fun _ _ _ _ _ no _ => no) (fun _ _ _ _ _ no _ => no)
    (fun _ _ _ _ no _ => no) (fun _ _ _ _ _ no _ => no) (fun _ _ _ no _ => no) (fun _ _ _ no _ => no) (fun _ _ no _ => no) (fun _ _ _ _ _ no _ => no) (fun _ _ _ no _ => no)
    (fun _ _ no _ => no) (fun _ _ no _ => no) (fun _ _ no _ => no) (fun _ _ no _ => no) (fun _ _ _ no _ => no) (fun _ _ _ _ no _ => no) (fun _ _ _ no _ => no) op e no κ
abbrev PT := Nat → List (List Nat) → List Oper → Nat → TyT → CallT → VE → Hp → List (Nat × Hp) → List Fl → List Pd → (VE → Hp → Bool) → Bool
noncomputable def lcOk (past : List (Nat × Hp)) (A : List Nat) : Bool := @List.rec (Nat × Hp) (fun _ => Bool) true (fun p _ _ => memN A p.1) past
/-- An operation whose effect others may see. -/
noncomputable def parE (o : Oper) (ih : PT) (A : List Nat) : PT := fun i anc all n ty call e h past fl pd κ =>
  iff (lcOk past A) (flJoin fl A h fun fl h1 => evOp o.op ty call e h1 (fun v h2 => iff (noFl h2 fl) (pdAgain ty call A h2 pd fun pd => putK o.dst n v e fun e' => ih (Nat.succ i) anc all n ty call e' h2 ((i, h) :: past) fl pd κ) false) (fun _ => false) (fun _ _ => false)) false
noncomputable def parQ (o : Oper) (ih : PT) : PT := fun i anc all n ty call e h past fl pd κ =>
  evOp o.op ty call e h (fun v _ => putK o.dst n v e fun e' => ih (Nat.succ i) anc all n ty call e' h past fl pd κ) (fun _ => false) (fun _ _ => false)
noncomputable def parL (o : Oper) (ih : PT) (A : List Nat) : PT := fun i anc all n ty call e h past fl pd κ =>
  iff (flDep fl A) (parE o ih A i anc all n ty call e h past fl pd κ)
    (evOp o.op ty call e h (fun v _ => iff (rvLt v h.next) (lookPast ty call o v A e past (putK o.dst n v e fun e' => ih (Nat.succ i) anc all n ty call e' h past fl (⟨i, o, e, v⟩ :: pd) κ)) false) (fun _ => false) (fun _ _ => false))
noncomputable def parM (o : Oper) (ih : PT) : PT := fun i anc all n ty call e h past fl pd κ =>
  evOp o.op ty call e h (fun v h1 => h1.t.getK .no h.next fun ob => setO h.next .no h1 fun h2 => putK o.dst n v e fun e' => ih (Nat.succ i) anc all n ty call e' h2 past (⟨h.next, ob, [i]⟩ :: fl) pd κ) (fun _ => false) (fun _ _ => false)
/-- A store into what was there: it is taken out, as what it becomes. -/
noncomputable def parT (N : Nat) (o : Oper) (ih : PT) (A : List Nat) : PT := fun i anc all n ty call e h past fl pd κ =>
  iff (lcOk past A) (evOp o.op ty call e h (fun v h2 => h2.t.getK .no N fun ob => setO N .no h2 fun h3 => iff (pdOk ty call A h3 pd) (putK o.dst n v e fun e' => ih (Nat.succ i) anc all n ty call e' h3 past (⟨N, ob, [i]⟩ :: fl) pd κ) (parE o ih A i anc all n ty call e h past fl pd κ)) (fun _ => false) (fun _ _ => false)) false
noncomputable def parS (o : Oper) (ih : PT) (A : List Nat) : PT := fun i anc all n ty call e h past fl pd κ =>
  stAddr o.op e (parE o ih A i anc all n ty call e h past fl pd κ) fun N => flFind fl N (parT N o ih A i anc all n ty call e h past fl pd κ) fun f mk => iff (allIn f.st A)
    (setO N f.ob h fun h1 => evOp o.op ty call e h1 (fun v h2 => h2.t.getK .no N fun ob => setO N .no h2 fun h3 => putK o.dst n v e fun e' => ih (Nat.succ i) anc all n ty call e' h3 past (mk ⟨N, ob, i :: f.st⟩) pd κ) (fun _ => false) (fun _ _ => false)) false
noncomputable def parC (c : Nat) (o : Oper) (ih : PT) (A : List Nat) : PT :=
  @Nat.rec (fun _ => PT) (parQ o ih) (fun c _ => @Nat.rec (fun _ => PT) (parL o ih A) (fun c _ => @Nat.rec (fun _ => PT) (parM o ih) (fun c _ => @Nat.rec (fun _ => PT) (parS o ih A) (fun _ _ => parE o ih A) c) c) c) c
/-- Are all lower ones among these? -/
noncomputable def lowK (A : List Nat) (m : Nat) : Bool := @Nat.rec (fun _ => Bool) true (fun j ih => iff (memN A j) ih false) m
/-- From where on a region's operations come in order, whatever is drawn. -/
noncomputable def tailX (ops : Array Oper) : Nat := @Nat.rec (fun _ => Nat) 0 (fun k _ => @Bool.rec (fun _ => Nat) (Nat.succ k) k (iff (Nat.beq ((ancTab (ops.toList.map depsOf)).getD k []).length k) (lowK ((ancTab (ops.toList.map depsOf)).getD k []) k) false)) (tailGo ops ops.size)
/-- Past one that panics: those that wait for it are never reached. -/
noncomputable def evParD (c : Nat) (l : List Oper) : PT :=
  @List.rec Oper (fun _ => PT) (fun _ _ _ _ _ _ e h _ fl _ κ => flAll fl h fun h => κ e h)
    (fun o _ ih i anc all n ty call e h past fl pd κ => @List.rec (List Nat) (fun _ => Bool) false (fun A anc _ => iff (memN A c) (iff (Nat.beq i c) false (putK o.dst n .skp e fun e' => ih (Nat.succ i) anc all n ty call e' h past fl pd κ)) (guardK o.guard all e
      (clsK ty o.op fun c => parC c o ih A i anc all n ty call e h past fl pd κ)
      (putK o.dst n .skp e fun e' => ih (Nat.succ i) anc all n ty call e' h past fl pd κ))) anc) l
/-- An operation whose effect others may see, or that panics. -/
noncomputable def parE2 (κp : RV → Hp → Bool) (tl : List Oper) (o : Oper) (ih : PT) (A : List Nat) : PT := fun i anc all n ty call e h past fl pd κ =>
  iff (lcOk past A) (flJoin fl A h fun fl h1 => evOp o.op ty call e h1 (fun v h2 => iff (noFl h2 fl) (pdAgain ty call A h2 pd fun pd => putK o.dst n v e fun e' => ih (Nat.succ i) anc all n ty call e' h2 ((i, h) :: past) fl pd κ) false) (fun _ => false)
    (fun v h2 => iff (noFl h2 fl) (pdAgain ty call A h2 pd fun pd => putK o.dst n v e fun e' => evParD i tl (Nat.succ i) anc all n ty call e' h2 ((i, h) :: past) fl pd fun _ _ => κp v h2) false)) false
noncomputable def parC2 (κp : RV → Hp → Bool) (tl : List Oper) (c : Nat) (o : Oper) (ih : PT) (A : List Nat) : PT :=
  @Nat.rec (fun _ => PT) (parQ o ih) (fun c _ => @Nat.rec (fun _ => PT) (parL o ih A) (fun c _ => @Nat.rec (fun _ => PT) (parM o ih) (fun c _ => @Nat.rec (fun _ => PT) (parS o ih A) (fun _ _ => parE2 κp tl o ih A) c) c) c) c
noncomputable def evPar (κp : RV → Hp → Bool) (l : List Oper) : PT :=
  @List.rec Oper (fun _ => PT) (fun _ _ _ _ _ _ e h _ fl _ κ => flAll fl h fun h => κ e h)
    (fun o tl ih i anc all n ty call e h past fl pd κ => @List.rec (List Nat) (fun _ => Bool) false (fun A anc _ => guardK o.guard all e
      (clsK ty o.op fun c => parC2 κp tl c o ih A i anc all n ty call e h past fl pd κ)
      (putK o.dst n .skp e fun e' => ih (Nat.succ i) anc all n ty call e' h past fl pd κ)) anc) l
/-- Slots that a region writes are not known behind its panic. -/
noncomputable def skD (l : List Oper) (n : Nat) : VE → (VE → Bool) → Bool :=
  @List.rec Oper (fun _ => VE → (VE → Bool) → Bool) (fun e κ => κ e) (fun o _ ih e κ => putK o.dst n .skp e fun e' => ih e' κ) l
noncomputable def exBlk (x : EX) : Nat → Bool → (EX → Bool) → Bool :=
  @EX.rec (fun _ => Nat → Bool → (EX → Bool) → Bool) (fun j id a κ => iff (Nat.beq j id) a (κ (.ext j))) (fun l _ _ κ => κ (.gt l)) (fun _ _ κ => κ .ret) (fun v _ _ κ => κ (.pan v)) x
noncomputable def exRet (x : EX) (a : Bool) (b : RV → Bool) : Bool := @EX.rec (fun _ => Bool) (fun _ => false) (fun _ => false) a b x
noncomputable def exCode (x : EX) (κ : Code → Bool) : Bool := @EX.rec (fun _ => Bool) (fun id => κ (.exit id)) (fun _ => false) (κ .ret) (fun _ => false) x
noncomputable def codeEx (c : Code) (κ : EX → Bool) : Bool :=
  @Code.rec (fun _ => Bool) false (fun _ _ _ => false) (fun _ _ _ _ => false) (fun _ _ _ _ _ => false) (fun _ _ _ => false) (fun _ _ => false) (fun _ _ _ _ _ _ => false) (fun id => κ (.ext id)) (fun _ _ => false) (fun _ => false) (fun _ => false) (κ .ret) (fun _ => false) c
noncomputable def obLp (h : Hp) (l : Nat) (κ : LoopState → Option Code → Nat → VE → Array Tmp → Code → Code → Nat → Bool) : Bool :=
  h.t.getK .no l fun o => @Ob.rec (fun _ => (LoopState → Option Code → Nat → VE → Array Tmp → Code → Code → Nat → Bool) → Bool) (fun _ => false) (fun _ _ _ => false) (fun _ _ _ _ _ => false) (fun _ _ _ => false) (fun _ _ _ _ => false) (fun _ _ _ _ _ => false) (fun _ => false) (fun st p n e ps a b D κ => κ st p n e ps a b D) o κ
noncomputable def lsIs (s : LoopState) (n : Nat) : Bool := Nat.beq (@LoopState.rec (fun _ => Nat) 0 1 2 3 s) n
/-- No jump. -/
noncomputable def exNoGo (x : EX) (κ : EX → Bool) : Bool := @EX.rec (fun _ => Bool) (fun id => κ (.ext id)) (fun _ => false) (κ .ret) (fun v => κ (.pan v)) x
abbrev CT := TyT → CallT → Nat → Nat → Option Nat → VE → Ds → Hp → KN → KX → Bool
noncomputable def evC (c : Code) : CT :=
  @Code.rec (fun _ => CT)
    (fun _ _ _ _ _ e d h kn _ => kn e d h)
    (fun _ ops dr ty call n _ rd e d h kn kx => iff dr (iff (parB ops) (evPar (fun v h => skD ops.toList n e fun e => kx (.pan v) e d h) (ops.toList.take (tailX ops)) 0 (ancTab (ops.toList.map depsOf)) ops.toList n ty call e h [] [] [] fun e h => evOps (ops.toList.drop (tailX ops)) ops.toList n ty call (bNot (optIs rd)) e d h kn kx) false)
      (evOps ops.toList ops.toList n ty call (bNot (optIs rd)) e d h kn kx))
    (fun _ _ iha ihb ty call n m rd e d h kn kx => iha ty call n m rd e d h (fun e d h => ihb ty call n m rd e d h kn kx) kx)
    (fun c _ _ iha ihb ty call n m rd e d h kn kx => opd c e fun v => rvBool v fun b => iff b (iha ty call n m rd e d h kn kx) (ihb ty call n m rd e d h kn kx))
    (fun id _ ih ty call n m rd e d h kn kx => ih ty call n m rd e d h kn (fun x e d h => exBlk x id (kn e d h) fun x => kx x e d h))
    (fun _ ih ty call n m rd e d h _ kx => @Nat.rec (fun _ => VE → Ds → Hp → Bool) (fun _ _ _ => false) (fun _ rec e d h => ih ty call n m rd e d h rec kx) m e d h)
    (fun g ps asn body _ _ _ call n _ rd e d h kn kx => opd g e fun gv => @Option.rec Nat (fun _ => Bool)
      (push .df h fun D h => push (.lp .ready none n e ps asn body D) h fun l h => callF call gv [.yld l] h (fun _ h => obLp h l fun st p _ _ _ _ _ _ => iff (lsIs st 1) false (setO l .no h fun h =>
        @Option.rec Code (fun _ => Bool) (kn e (.mk D :: d) h) (fun c => codeEx c fun x => kx x e (.mk D :: d) h) p)) fun v h => kx (.pan v) e (.mk D :: d) h)
      (fun l0 => obLp h l0 fun _ _ _ _ _ _ _ D => push (.lp .ready none n e ps asn body D) h fun l h => callF call gv [.yld l] h (fun _ h => obLp h l fun st p _ _ _ _ _ _ => iff (lsIs st 1) false (setO l .no h fun h =>
        @Option.rec Code (fun _ => Bool) (kn e d h) (fun c => codeEx c fun x => kx x e d h) p)) fun v h => kx (.pan v) e d h) rd)
    (fun id _ _ _ _ _ e d h _ kx => kx (.ext id) e d h)
    (fun _ ih ty call n m rd e d h kn kx => ih ty call n m rd e d h kn fun x e d h => exNoGo x fun x => kx x e d h)
    (fun _ _ _ _ _ _ e d h kn _ => kn e d h)
    (fun l _ _ _ _ _ e d h _ kx => kx (.gt l) e d h)
    (fun _ _ _ _ _ e d h _ kx => kx .ret e d h)
    (fun _ _ _ _ _ _ _ _ _ _ _ => false) c

/-! ### Functions -/
noncomputable def setArgs (l : List RV) : Nat → VE → (VE → Bool) → Bool :=
  @List.rec RV (fun _ => Nat → VE → (VE → Bool) → Bool) (fun _ e κ => κ e) (fun v _ ih i e κ => Tr.set v e i fun e' => ih (Nat.succ i) e' κ) l
noncomputable def setPs (ps : List Tmp) (n : Nat) : List RV → VE → (VE → Bool) → Bool :=
  @List.rec Tmp (fun _ => List RV → VE → (VE → Bool) → Bool) (fun vs e κ => @List.rec RV (fun _ => Bool) (κ e) (fun _ _ _ => false) vs)
    (fun p _ ih vs e κ => @List.rec RV (fun _ => Bool) false (fun v tl _ => iff (Nat.blt p n) (Tr.set v e p fun e' => ih tl e' κ) false) vs) ps
noncomputable def layers (n : Nat) (κ : Nat → Bool) : Bool := natF (Nat.succ (Nat.succ (Nat.log2 n))) κ
/-- What is told: values, and cells that are read when all deferred calls are done. -/
noncomputable def outK (ty : TyT) (rs : List ResultVar) : VE → ((Hp → (List RV → Bool) → Bool) → Bool) → Bool :=
  @List.rec ResultVar (fun _ => VE → ((Hp → (List RV → Bool) → Bool) → Bool) → Bool) (fun _ κ => κ fun _ q => q [])
    (fun r _ ih e κ => @ResultVar.rec (fun _ => Bool) (fun t => e.getK undefR t fun v => ih e fun g => κ fun h q => g h fun l => q (v :: l))
      (fun a t => e.getK undefR a fun p => rvPtr p fun i off => ih e fun g => κ fun h q => ldAt ty t h i off fun v => g h fun l => q (v :: l)) r) rs
noncomputable def tupK (l : List RV) (κ : RV → Bool) : Bool := @List.rec RV (fun _ => Bool) (κ (.tup [])) (fun a tl _ => @List.rec RV (fun _ => Bool) (κ a) (fun _ _ _ => κ (.tup l)) tl) l
noncomputable def isDf (h : Hp) (i : Nat) : Bool := h.t.getK .no i fun o => @Ob.rec (fun _ => Bool) false (fun _ _ => false) (fun _ _ _ _ => false) (fun _ _ => false) (fun _ _ _ => false) (fun _ _ _ _ => false) true (fun _ _ _ _ _ _ _ _ => false) o
/-- What is known of a function otherwise: an answer of its own; or that it recovers (what it asserts). -/
inductive FE where
  | orc (o : List RV → Hp → K → Bool)
  | cgt (t : TypeId)
  | cg1 (t : TypeId)
abbrev OvT := List (Nat × FE)
noncomputable def ovK (ov : OvT) (f : Nat) (no : Bool) (κ : FE → Bool) : Bool := @List.rec (Nat × FE) (fun _ => Bool) no (fun p _ ih => iff (Nat.beq p.1 f) (κ p.2) ih) ov
noncomputable def cgtK (call : CallT) (x : RV) (args : List RV) (h : Hp) (κ : Hp → Bool) : Bool :=
  iff (lenIs args 2) (nthK args 0 fun p => nthK args 1 fun g => rvPtr p fun i off => rvInt x fun kx n => iff (ikEq kx .i64) (rvFn g fun fn fst caps => iff (lenIs fst 0) (obM h i fun cs mk => nthK cs off fun old => rvInt old fun ko _ => iff (ikEq ko .i64)
    (spliceK cs off [.int .i64 n] fun cs' => setO i (mk cs') h fun h => callF call g [] h (fun r h => rvTup r fun l => iff (lenIs l 0) (κ h) false) (fun _ _ => false)) false) false) false) false
noncomputable def cg1K (x : RV) (args : List RV) (h : Hp) (κ : Hp → Bool) : Bool :=
  nthK args 0 fun p => rvPtr p fun i off => rvInt x fun kx n => iff (ikEq kx .i64) (obM h i fun cs mk => nthK cs off fun old => rvInt old fun ko _ => iff (ikEq ko .i64)
    (spliceK cs off [.int .i64 n] fun cs' => setO i (mk cs') h κ) false) false
noncomputable def undo (ov : OvT) (call : CallT) (d : Ds) : Option RV → Hp → (Option RV → Hp → Bool) → Bool :=
  @List.rec DV (fun _ => Option RV → Hp → (Option RV → Hp → Bool) → Bool) (fun md h κ => κ md h)
    (fun v _ ih md h κ => @DV.rec (fun _ => Bool) (fun D => iff (isDf h D) (setO D .no h fun h => ih md h κ) false)
      (fun f args => ovK ov f false fun fe => @FE.rec (fun _ => Bool) (fun _ => false) (fun t => iff (lenIs args 2) (@Option.rec RV (fun _ => Bool) (ih none h κ) (fun v => rvIfc v fun u x => iff (Nat.beq u t) (cgtK call x args h fun h => ih none h κ) false) md) false)
        (fun t => iff (lenIs args 1) (@Option.rec RV (fun _ => Bool) (ih none h κ) (fun v => rvIfc v fun u x => iff (Nat.beq u t) (cg1K x args h fun h => ih none h κ) false) md) false) fe) v) d
noncomputable def leave (ty : TyT) (ov : OvT) (call : CallT) (fn : Func) (md : Option RV) (e : VE) (d : Ds) (h : Hp) (k : K) (kp : KP) : Bool :=
  outK ty fn.results.toList e fun g => undo ov call d md h fun md h => @Option.rec RV (fun _ => Bool) (g h fun l => tupK l fun r => k r h) (fun v => kp v h) md
/-- The slots of what is told are known. -/
noncomputable def resNd (rs : List ResultVar) (e : VE) (a : Bool) : Bool :=
  @List.rec ResultVar (fun _ => Bool) a (fun r _ ih => @ResultVar.rec (fun _ => Bool) (fun t => e.getK undefR t fun v => iff (isCon 19 v) false ih) (fun t _ => e.getK undefR t fun v => iff (isCon 19 v) false ih) r) rs
noncomputable def runFn (ty : TyT) (fu : FuT) (ov : OvT) (call : CallT) (m : Nat) (f : Nat) (args : List RV) (h : Hp) (k : K) (kp : KP) : Bool :=
  fu.getK none f fun o => @Option.rec Func (fun _ => Bool) false (fun fn => @Option.rec Code (fun _ => Bool) false (fun c => lenK args fun na => natF (Nat.max fn.ntmps na) fun n => layers n fun L => setArgs args 0 (Tr.full undefR L) fun e =>
    evC c ty call n m none e [] h (fun e d h => leave ty ov call fn none e d h k kp)
      (fun x e d h => exRet x (leave ty ov call fn none e d h k kp) fun v => @List.rec DV (fun _ => Bool) (kp v h) (fun _ _ _ => resNd fn.results.toList e (leave ty ov call fn (some v) e d h k kp)) d)) fn.body) o
/-- How a round is left: the loop's record. -/
noncomputable def endRd (h : Hp) (l : Nat) (st : LoopState) (pe : Option Code) (κ : Hp → Bool) : Bool :=
  obLp h l fun _ _ n e ps asn body D => setO l (.lp st pe n e ps asn body D) h κ
noncomputable def runY (ty : TyT) (call : CallT) (m : Nat) (l : Nat) (args : List RV) (h : Hp) (k : K) (kp : KP) : Bool :=
  obLp h l fun _ _ n e ps asn body _ => setPs ps.toList n args e fun e1 => evC asn ty call n m (some l) e1 [] h
    (fun e2 d2 h2 => @List.rec DV (fun _ => Bool) (obLp h2 l fun st p n' e' ps' asn' body' D' => iff (lsIs st 0) (setO l (.lp .busy p n' e' ps' asn' body' D') h2 fun h2 => evC body ty call n m (some l) e2 [] h2
      (fun _ d3 h3 => @List.rec DV (fun _ => Bool) (endRd h3 l .ready none fun h4 => k (.bool true) h4) (fun _ _ _ => false) d3)
      (fun x _ d3 h3 => @List.rec DV (fun _ => Bool) (@EX.rec (fun _ => Bool) (fun id => endRd h3 l .done (some (.exit id)) fun h4 => k (.bool false) h4) (fun _ => false) (endRd h3 l .done (some .ret) fun h4 => k (.bool false) h4) (fun v => kp v h3) x) (fun _ _ _ => false) d3)) false) (fun _ _ _ => false) d2)
    (fun _ _ _ _ => false)
noncomputable def run (ty : TyT) (fu : FuT) (ov : OvT) (m : Nat) : CallT :=
  @Nat.rec (fun _ => CallT) (fun _ _ _ _ _ _ => false) (fun m ih y f args h k kp => iff y (runY ty ih m f args h k kp) (ovK ov f (runFn ty fu ov ih m f args h k kp) fun fe => @FE.rec (fun _ => Bool) (fun o => o args h k) (fun _ => false) (fun _ => false) fe)) m
end Go.L.Ev
