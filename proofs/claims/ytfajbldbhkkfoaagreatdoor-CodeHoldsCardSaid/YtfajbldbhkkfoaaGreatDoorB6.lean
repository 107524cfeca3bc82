/- Contracts of single functions: no condition but those that each states. -/
import Derived.Test.YtfajbldbhkkfoaaGreatDoorB5
set_option linter.unusedVariables false
set_option linter.unusedSimpArgs false
namespace Go.L
open Go Go.RowKit Go.Proofs Go.ChangeShapes Go.WideShapes Go.ChangeAt
set_option linter.unusedSimpArgs false
set_option linter.unusedVariables false

def OkQ (W : World) (r : INP) : Prop := InsWf r.1 ∧ I64 r.1.k ∧ I64 r.1.o ∧ Sl W r.2.1 1 (r.1.ar.map vInt) ∧ r.1.ar.length ≤ r.2.2
section
variable {H : Type} {enc : TypeId × Value → H} {W : World}
set_option maxRecDepth 10000 in
theorem el62p (n : Nat) (c1 : List Value) (y : DataW H × List MemPlace) (h : DataW.trod enc Tryz.prog W 0 (fun _ => true) true n 62 c1 = some y) : ∃ r : INP, c1 = (inP2 r).cells.toList ∧ OkQ W r := by
  obtain ⟨xs, m, _, _, hlen, hx, hf⟩ := DataW.trod_struct Tryz.underlying62 h
  rw [cells62] at hlen
  obtain ⟨v0, v1, v2, v3, v4, v5, v6, v7, v8, v9, rfl⟩ : ∃ v0 v1 v2 v3 v4 v5 v6 v7 v8 v9, c1 = [v0, v1, v2, v3, v4, v5, v6, v7, v8, v9] := by
    match c1, hlen with
    | [v0, v1, v2, v3, v4, v5, v6, v7, v8, v9], _ => exact ⟨v0, v1, v2, v3, v4, v5, v6, v7, v8, v9, rfl⟩
  have hx8 : xs.length = 8 := hx
  have get : ∀ j, j < 8 → ∃ x, xs[j]? = some x := fun j hj => ⟨xs[j]'(by omega), by simp [hx8, hj]⟩
  have c3 : Tryz.prog.cellsOf 3 = 1 := by kernel_rfl
  have c33 : Tryz.prog.cellsOf 33 = 1 := by kernel_rfl
  have c56 : Tryz.prog.cellsOf 56 = 1 := by kernel_rfl
  have c9 : Tryz.prog.cellsOf 9 = 1 := by kernel_rfl
  have c60 : Tryz.prog.cellsOf 60 = 1 := by kernel_rfl
  have c59 : Tryz.prog.cellsOf 59 = 3 := by kernel_rfl
  have f0 : DataW.trod enc Tryz.prog W 0 (fun _ => true) true m 33 (([v0, v1, v2, v3, v4, v5, v6, v7, v8, v9].drop 0).take (Tryz.prog.cellsOf 33)) = xs[0]? := hf 0 _ rfl
  have f1 : DataW.trod enc Tryz.prog W 0 (fun _ => true) true m 3 (([v0, v1, v2, v3, v4, v5, v6, v7, v8, v9].drop 1).take (Tryz.prog.cellsOf 3)) = xs[1]? := hf 1 _ rfl
  have f2 : DataW.trod enc Tryz.prog W 0 (fun _ => true) true m 3 (([v0, v1, v2, v3, v4, v5, v6, v7, v8, v9].drop 2).take (Tryz.prog.cellsOf 3)) = xs[2]? := hf 2 _ rfl
  have f3 : DataW.trod enc Tryz.prog W 0 (fun _ => true) true m 3 (([v0, v1, v2, v3, v4, v5, v6, v7, v8, v9].drop 3).take (Tryz.prog.cellsOf 3)) = xs[3]? := hf 3 _ rfl
  have f4 : DataW.trod enc Tryz.prog W 0 (fun _ => true) true m 56 (([v0, v1, v2, v3, v4, v5, v6, v7, v8, v9].drop 4).take (Tryz.prog.cellsOf 56)) = xs[4]? := hf 4 _ rfl
  have f5 : DataW.trod enc Tryz.prog W 0 (fun _ => true) true m 59 (([v0, v1, v2, v3, v4, v5, v6, v7, v8, v9].drop 5).take (Tryz.prog.cellsOf 59)) = xs[5]? := hf 5 _ rfl
  have f6 : DataW.trod enc Tryz.prog W 0 (fun _ => true) true m 9 (([v0, v1, v2, v3, v4, v5, v6, v7, v8, v9].drop 8).take (Tryz.prog.cellsOf 9)) = xs[6]? := hf 6 _ rfl
  have f7 : DataW.trod enc Tryz.prog W 0 (fun _ => true) true m 60 (([v0, v1, v2, v3, v4, v5, v6, v7, v8, v9].drop 9).take (Tryz.prog.cellsOf 60)) = xs[7]? := hf 7 _ rfl
  simp only [c3, c33, c56, c9, c60, c59, List.drop_zero, List.take_succ_cons, List.take_zero, List.drop_succ_cons] at f0 f1 f2 f3 f4 f5 f6 f7
  obtain ⟨x0, g0⟩ := get 0 (by omega)
  obtain ⟨x1, g1⟩ := get 1 (by omega)
  obtain ⟨x2, g2⟩ := get 2 (by omega)
  obtain ⟨x3, g3⟩ := get 3 (by omega)
  obtain ⟨x4, g4⟩ := get 4 (by omega)
  obtain ⟨x5, g5⟩ := get 5 (by omega)
  obtain ⟨x6, g6⟩ := get 6 (by omega)
  obtain ⟨x7, g7⟩ := get 7 (by omega)
  rw [g0] at f0
  rw [g1] at f1
  rw [g2] at f2
  rw [g3] at f3
  rw [g4] at f4
  rw [g5] at f5
  rw [g6] at f6
  rw [g7] at f7
  obtain ⟨n0, e0, _, w0⟩ := DataW.trod_int Tryz.underlying33 f0
  obtain ⟨n1, e1, _, w1⟩ := DataW.trod_int Tryz.underlying3 f1
  obtain ⟨n2, e2, _, w2⟩ := DataW.trod_int Tryz.underlying3 f2
  obtain ⟨n3, e3, _, w3⟩ := DataW.trod_int Tryz.underlying3 f3
  obtain ⟨n4, e4, _, w4⟩ := DataW.trod_int Tryz.underlying56 f4
  obtain ⟨r, e5, w5⟩ := el41 m _ _ f5
  obtain ⟨s, e6, _, _⟩ := DataW.trod_string Tryz.underlying9 f6
  obtain ⟨a, l, cp, e7, hsl, hok, hlc, _⟩ := trod_sl vInt (fun r => -9223372036854775808 ≤ r ∧ r ≤ 9223372036854775807) Tryz.underlying60 c3 (by omega) (fun _ => rfl) (el_int Tryz.underlying3) (show _ = some (x7.1, x7.2) from f7)
  simp only [vVal, Value.cells, List.cons.injEq, and_true] at e0 e1 e2 e3 e4 e5 e6 e7
  obtain ⟨e5, e5', e5''⟩ := e5
  subst e0; subst e1; subst e2; subst e3; subst e4; subst e5; subst e5'; subst e5''; subst e6; subst e7
  refine ⟨(⟨n0, n1, n2, n3, n4, r, s, l⟩, a, cp), rfl, ⟨?_, ?_, ?_, w5, hok⟩, ?_, ?_, hsl, hlc⟩
  · simpa [Lit.wf, IntKind.min, IntKind.max, IntKind.signed, IntKind.bits, I64] using w1
  · simpa [Lit.wf, IntKind.min, IntKind.max, IntKind.signed, IntKind.bits, I64] using w2
  · simpa [Lit.wf, IntKind.min, IntKind.max, IntKind.signed, IntKind.bits, I64] using w3
  · simpa [Lit.wf, IntKind.min, IntKind.max, IntKind.signed, IntKind.bits, I64] using w0
  · simpa [Lit.wf, IntKind.min, IntKind.max, IntKind.signed, IntKind.bits, I64] using w4
set_option maxRecDepth 100000 in
/-- Code that is handed in, with the capacities. -/
theorem open_insP {base : Nat} {v : Value} {d : DataW H} {p : List MemPlace} (hval : Value.okWide Tryz.prog W .any base 22 v) (h : DataW.Trod enc Tryz.prog W 0 (fun _ => true) true 22 v d p) :
    ∃ (a : Option Addr) (l : List IN) (cp : Nat), v = .slice a l.length cp ∧ InsP W a l ∧ (∀ x ∈ l, InsWf x ∧ I64 x.k ∧ I64 x.o) ∧ l.length ≤ 9223372036854775807 := by
  obtain ⟨a, l, cp, rfl, hsl, hok, h1, h2⟩ := open_sl (sz := 10) inP2 (OkQ W) Tryz.underlying22 cells62 (by omega) inP2_size (fun n c1 y h => el62p n c1 y h) hval h
  refine ⟨a, l.map (·.1), cp, by simp, ⟨l.map inP2, hsl, by simp, ?_⟩, ?_, by simp; omega⟩
  · intro i x hx
    rw [List.getElem?_map] at hx
    cases hr : l[i]? with
    | none => rw [hr] at hx; cases hx
    | some r =>
      rw [hr] at hx
      cases hx
      have := hok r (List.mem_of_getElem? hr)
      exact ⟨r.2.1, r.2.2, by simp [hr]; rfl, this.2.2.2.1, this.2.2.2.2⟩
  · intro x hx
    obtain ⟨r, hr, rfl⟩ := List.mem_map.1 hx
    exact ⟨(hok r hr).1, (hok r hr).2.1, (hok r hr).2.2.1⟩
theorem putOk_in {l : List IN} (hw : ∀ x ∈ l, InsWf x ∧ I64 x.k ∧ I64 x.o) (hc : chkC l = 0) : ∀ x ∈ l, PutOk x := fun x hx => by
  have h := (chkC_all hc).2 x hx
  rw [← rightEq] at h
  exact putOk_of h (hw x hx).1 (hw x hx).2.1 (hw x hx).2.2
end
end Go.L
