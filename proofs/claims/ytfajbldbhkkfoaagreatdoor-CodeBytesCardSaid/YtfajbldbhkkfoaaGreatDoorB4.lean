/- Contracts of single functions: no condition but those that each states. -/
import Derived.Test.YtfajbldbhkkfoaaGreatDoorB3
set_option linter.unusedVariables false
set_option linter.unusedSimpArgs false
namespace Go.L
open Go Go.RowKit Go.Proofs Go.ChangeShapes Go.WideShapes Go.ChangeAt
set_option linter.unusedSimpArgs false
set_option linter.unusedVariables false

/-- A slice whose cells have been gone through. -/
theorem trod_sl {H : Type} {enc : TypeId × Value → H} {P : Program} {W : World} {α : Type} (mk : α → Value) (ok : α → Prop) {t e : TypeId} {sz : Nat} (ht : P.underlying t = some (.slice e)) (hc : P.cellsOf e = sz) (hsz : 0 < sz) (hmk : ∀ r, (mk r).cells.size = sz)
    (hel : ∀ (n : Nat) (c1 : List Value) (y : DataW H × List MemPlace), DataW.trod enc P W 0 (fun _ => true) true n e c1 = some y → ∃ r, c1 = (mk r).cells.toList ∧ ok r)
    {fuel : Nat} {cs : List Value} {d : DataW H} {p : List MemPlace} (hf : DataW.trod enc P W 0 (fun _ => true) true fuel t cs = some (d, p)) :
    ∃ (a : Option Addr) (l : List α) (cp : Nat), cs = [.slice a l.length cp] ∧ Sl W a sz (l.map mk) ∧ (∀ r ∈ l, ok r) ∧ l.length ≤ cp ∧ cp ≤ 9223372036854775807 := by
  rcases DataW.trod_slice ht hf with ⟨h1, _⟩ | ⟨a, len, cap, elems, rest, n, _, h1, _, _, hl, hm, hlen, hE, _⟩
  · exact ⟨none, [], 0, h1, Sl.nil _ _, by simp, by simp, by omega⟩
  · rw [hc] at hE
    have key : ∀ i, i < len → ∃ r : α, (∀ j u, (mk r).cells.toList[j]? = some u → W.cell? ((a.add (i * sz)).add j) = some u) ∧ ok r := by
      intro i hi
      have h2 := hE i hi
      rw [show elems[i]? = some elems[i] by simp [hlen, hi]] at h2
      simp only [Option.bind_eq_some_iff] at h2
      obtain ⟨c1, hc1, hy⟩ := h2
      obtain ⟨r, rfl, hr⟩ := hel _ _ _ hy
      refine ⟨r, fun j u hj => ?_, hr⟩
      unfold World.cells? at hc1
      split at hc1
      · have hjl := (List.getElem?_eq_some_iff.1 hj).1
        have hjs : j < sz := by simpa [hmk] using hjl
        obtain ⟨b, hb, hb2⟩ := (mapM_get hc1).2 j j (by simp [hjs])
        rw [hj] at hb2; cases hb2; exact hb
      · cases hc1
    obtain ⟨l, hll, hlp⟩ := exists_list key
    refine ⟨some a, l, cap, by rw [hll]; exact h1, ⟨fun v hv => ?_, ?_⟩, fun r hr => ?_, by rw [hll]; exact hl, by simpa [maxLen] using hm⟩
    · obtain ⟨r, _, rfl⟩ := List.mem_map.1 hv; exact hmk r
    · by_cases hl0 : len = 0
      · left; have : l = [] := List.eq_nil_of_length_eq_zero (by omega); rw [this]; rfl
      · right
        obtain ⟨b, off, spot⟩ := a
        have hget : ∀ i (hi : i < l.length), ∀ j u, (mk l[i]).cells.toList[j]? = some u → W.cell? ((Addr.add ⟨b, off, spot⟩ (i * sz)).add j) = some u := fun i hi => (hlp i l[i] (by simp [hi])).1
        have h0 := hget 0 (by omega) 0 _ (List.getElem?_eq_getElem (by simpa [hmk] using hsz))
        have hspot : spot = none := by
          have := World.cell?_spot h0
          simpa [Addr.add] using this
        subst hspot
        have hb : b < W.heap.size := by
          simp only [Nat.zero_mul, Addr.add_mid] at h0
          unfold World.cell? at h0
          cases hh : W.heap[b]? with
          | none => simp [hh] at h0
          | some o => exact (Array.getElem?_eq_some_iff.1 hh).1
        refine ⟨b, off, rfl, hb, rangeAt_flat _ off (fun v hv => by obtain ⟨r, _, rfl⟩ := List.mem_map.1 hv; exact hmk r) fun i v hv j u hj => ?_⟩
        rw [List.getElem?_map] at hv
        cases hr : l[i]? with
        | none => rw [hr] at hv; cases hv
        | some r =>
          rw [hr] at hv; cases hv
          obtain ⟨hi, hr2⟩ := List.getElem?_eq_some_iff.1 hr
          have := hget i hi j u (by rw [hr2]; exact hj)
          simpa [Addr.add_mid] using this
    · obtain ⟨i, hi⟩ := List.mem_iff_getElem?.1 hr
      exact (hlp i r hi).2
abbrev INP := IN × Option Addr × Nat
def inP2 (r : INP) : Value := inV r.1 r.2.1 r.2.2
section
variable {H : Type} {enc : TypeId × Value → H} {W : World}
theorem cells62 : Tryz.prog.cellsOf 62 = 10 := by kernel_rfl
theorem inP2_size (r : INP) : (inP2 r).cells.size = 10 := rfl
end
end Go.L
namespace Go.L
open Go Go.RowKit Go.Proofs
set_option linter.unusedSimpArgs false
set_option linter.unusedVariables false

end Go.L
namespace Go.L
open Go Go.RowKit Go.Proofs
set_option linter.unusedSimpArgs false
set_option linter.unusedVariables false

end Go.L
namespace Go.L
open Go Go.RowKit Go.Proofs
set_option linter.unusedSimpArgs false
set_option linter.unusedVariables false

end Go.L
