/- SchemaBounds: for all numbers of things, columns and sources, as many things as there may be and one more, as many columns and fields, are told as the chapter says: the law returns true and its arguments read as before. No condition. -/
import Derived.Test.YtnmefofmegfliaaGreatDoorW2
import Derived.Test.YtnmefofmegfliaaGreatDoorA2
import Derived.Test.YtnmefofmegfliaaGreatDoorY6
import Derived.Test.YtnmefofmegfliaaGreatDoorF7
import Derived.Test.YtnmefofmegfliaaGreatDoorQ2
import Derived.Test.YtnmefofmegfliaaGreatDoorQ1
import Derived.Test.YtnmefofmegfliaaGreatDoorQ3
import Derived.Test.YtnmefofmegfliaaGreatDoorQ4
import Derived.Test.YtnmefofmegfliaaGreatDoorK1
import Derived.Test.YtnmefofmegfliaaGreatDoorRows
import Derived.Test.YtnmefofmegfliaaGreatDoorCards
set_option linter.unusedVariables false
set_option linter.unusedSimpArgs false
set_option linter.unusedSectionVars false
namespace Go.Proofs.YtnmefofmegfliaaGreatDoor.SchemaBounds
open Go Go.L Go.RowKit Go.Proofs Go.ChangeShapes Go.WideShapes Go.ChangeAt
set_option maxRecDepth 100000
theorem contract (H : Type) (enc : TypeId × Value → H) (W : World) (base : Nat) (args : Array Value) (ds gs : List (DataW H)) (before : List MemPlace)
    (hval : ∀ (j : Nat) t v, Tryz.f3.params[j]? = some t → args[j]? = some v → Value.okWide Tryz.prog W .any base t v)
    (hW : DataW.Whole enc Tryz.prog Tryz.f3.params.toList Rows.schemaBoundsSpec.vars false W args.toList ds gs before) :
    Calls Tryz.prog 3 args W fun e W' => ∃ v, e = .returned v ∧ Rows.schemaBoundsSpec.post enc Tryz.prog Tryz.f3 false true false false W args v W' := by
  have hW' := hW
  obtain ⟨p, q, hA0, hV, rfl, hfz, hnd⟩ := hW
  have hA : DataW.TrodAll enc Tryz.prog W 0 (fun _ => true) true Tryz.f3.params.toList args.toList ds p := hA0
  rw [Tryz.params3] at hA hval
  obtain ⟨v0, v1, v2, d0, d1, d2, p0, p1, p2, rfl, rfl, rfl, h0, h1, h2⟩ := trodAll_three hA
  obtain ⟨rfl, rfl⟩ := trodVars_none hV
  refine (Go.L.law_calls (hval 0 3 v0 rfl rfl) (hval 1 3 v1 rfl rfl) (hval 2 3 v2 rfl rfl)).mono ?_
  rintro e W' ⟨rfl, hB⟩
  exact ⟨_, rfl, law_post laidOut rfl rfl (tb := 4) (by kernel_rfl) Tryz.underlying4 (by kernel_rfl) hW' hB⟩
theorem lifted (os : Os) (started : os.Started) (H : Type) (enc : TypeId × Value → H) :
    ReturnsInHanded {} Tryz.checked os 3 .any (fun w args => (Rows.schemaBoundsSpec.pre enc Tryz.prog Tryz.f3 Rows.schemaBoundsRow.domain false w args ∧ laidMetH Tryz.prog laid w) ∧ sizedMet enc Tryz.prog Tryz.f3 (OpenSpec.ofChange Rows.schemaBoundsSpec) false w args)
      (Rows.schemaBoundsSpec.post enc Tryz.prog Tryz.f3 false true false false) := by
  refine returnsInHanded_both (C := Tryz.checked) (X := fun w _ => laidMetH Tryz.prog laid w) (fun _ _ _ hh h => h.of_heap hh) own started q_init Tryz.func3
    (ChangeSpec.witness_shaped (enc := enc) (C := Tryz.checked) (os := os) (X := fun w _ => laidMetH Tryz.prog laid w) false (World.laidAll Tryz.prog os laid) wit 8 (World.laidAll_os _ _ _)
      (q_shaped os) (q_ok os) (q_pre enc os) (q_sized enc os) (q_met os)) ?_
  intro W base args ds gs before hval hW _ _
  exact contract H enc W base args ds gs before hval hW
theorem row_holds : Rows.SchemaBoundsSaid :=
  OpenClaim.holds_of_wide 3 Tryz.f3 rfl rfl rfl rfl rfl rfl rfl ⟨rfl, rfl, rfl, rfl, rfl⟩ rfl rfl rfl rfl rfl q_named Tryz.func3 q_facts
    q_inst q_wrap
    (fun os started H enc _ => lifted os started H enc)
theorem holds : Rows.SchemaBoundsCardSaid :=
  Claim7.holds_tied_plain_at .later [] [.data, .data, .data, .pinned, .data, .sentinel, .sentinel] true (true, "2a58cfb2586997796f5db60998e3fa6a9e4d001ab7947b9a58c18c2f05e357a0") true
    row_holds (fun _ h => by cases h) c_wf (fun _ h => by cases h) row_tie rfl ⟨rfl, rfl⟩ c_main rfl
    (fun f fn hf hfn => by
      obtain rfl : f = 3 := Option.some.inj (q_named.symm.trans hf) |>.symm
      obtain rfl : fn = Tryz.f3 := (Option.some.inj (Tryz.func3.symm.trans hfn)).symm
      exact ⟨c_looks, fun j t ht => by
        rw [Tryz.params3] at ht
        have hm : t ∈ [3, 3, 3] := by simpa using Array.mem_of_getElem? ht
        have hall : ([3, 3, 3].all fun u => !Tryz.prog.wantsStandIn u) = true := c_stand
        exact (show Tryz.prog.wantsStandIn t = false by simpa using List.all_eq_true.1 hall t hm)⟩)
    c_goes
end Go.Proofs.YtnmefofmegfliaaGreatDoor.SchemaBounds
