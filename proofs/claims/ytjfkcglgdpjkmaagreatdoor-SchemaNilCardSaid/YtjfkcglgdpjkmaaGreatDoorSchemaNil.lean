/- SchemaNil: for every statement and name, what is told of no schema is as the chapter says: the law returns true and its arguments read as before. No condition. -/
import Derived.Test.YtjfkcglgdpjkmaaGreatDoorM1
import Derived.Test.YtjfkcglgdpjkmaaGreatDoorA2
import Derived.Test.YtjfkcglgdpjkmaaGreatDoorY6
import Derived.Test.YtjfkcglgdpjkmaaGreatDoorF7
import Derived.Test.YtjfkcglgdpjkmaaGreatDoorQ2
import Derived.Test.YtjfkcglgdpjkmaaGreatDoorQ1
import Derived.Test.YtjfkcglgdpjkmaaGreatDoorQ3
import Derived.Test.YtjfkcglgdpjkmaaGreatDoorQ4
import Derived.Test.YtjfkcglgdpjkmaaGreatDoorK1
import Derived.Test.YtjfkcglgdpjkmaaGreatDoorRows
import Derived.Test.YtjfkcglgdpjkmaaGreatDoorCards
set_option linter.unusedVariables false
set_option linter.unusedSimpArgs false
namespace Go.Proofs.YtjfkcglgdpjkmaaGreatDoor.SchemaNil
open Go Go.L Go.RowKit Go.Proofs Go.ChangeShapes Go.WideShapes Go.ChangeAt
set_option maxRecDepth 100000
theorem contract (H : Type) (enc : TypeId × Value → H) (W : World) (base : Nat) (args : Array Value) (ds gs : List (DataW H)) (before : List MemPlace)
    (hval : ∀ (j : Nat) t v, Tryz.f3.params[j]? = some t → args[j]? = some v → Value.okWide Tryz.prog W .any base t v)
    (hW : DataW.Whole enc Tryz.prog Tryz.f3.params.toList Rows.schemaNilSpec.vars false W args.toList ds gs before) :
    Calls Tryz.prog 3 args W fun e W' => ∃ v, e = .returned v ∧ Rows.schemaNilSpec.post enc Tryz.prog Tryz.f3 false true false false W args v W' := by
  have hW' := hW
  obtain ⟨p, q, hA0, hV, rfl, hfz, hnd⟩ := hW
  have hA : DataW.TrodAll enc Tryz.prog W 0 (fun _ => true) true Tryz.f3.params.toList args.toList ds p := hA0
  rw [Tryz.params3] at hA hval
  obtain ⟨v0, v1, d0, d1, p0, p1, rfl, rfl, rfl, h0, h1⟩ := trodAll_two hA
  obtain ⟨rfl, rfl⟩ := trodVars_none hV
  refine (Go.L.Ev.law_calls (hval 0 58 v0 rfl rfl) (hval 1 9 v1 rfl rfl)).mono ?_
  rintro e W' ⟨rfl, hB⟩
  exact ⟨_, rfl, law_post laidOut rfl rfl (tb := 4) (by kernel_rfl) Tryz.underlying4 (by kernel_rfl) hW' hB⟩
theorem lifted (os : Os) (started : os.Started) (H : Type) (enc : TypeId × Value → H) :
    ReturnsInHanded {} Tryz.checked os 3 .any (fun w args => (Rows.schemaNilSpec.pre enc Tryz.prog Tryz.f3 Rows.schemaNilRow.domain false w args ∧ laidMetH Tryz.prog laid w) ∧ sizedMet enc Tryz.prog Tryz.f3 (OpenSpec.ofChange Rows.schemaNilSpec) false w args)
      (Rows.schemaNilSpec.post enc Tryz.prog Tryz.f3 false true false false) := by
  refine returnsInHanded_both (C := Tryz.checked) (X := fun w _ => laidMetH Tryz.prog laid w) (fun _ _ _ hh h => h.of_heap hh) own started q_init Tryz.func3
    (ChangeSpec.witness_shaped (enc := enc) (C := Tryz.checked) (os := os) (X := fun w _ => laidMetH Tryz.prog laid w) false (World.laidAll Tryz.prog os laid) wit 8 (World.laidAll_os _ _ _)
      (q_shaped os) (q_ok os) (q_pre enc os) (q_sized enc os) (q_met os)) ?_
  intro W base args ds gs before hval hW _ _
  exact contract H enc W base args ds gs before hval hW
theorem row_holds : Rows.SchemaNilSaid :=
  OpenClaim.holds_of_wide 3 Tryz.f3 rfl rfl rfl rfl rfl rfl rfl ⟨rfl, rfl, rfl, rfl, rfl⟩ rfl rfl rfl rfl rfl q_named Tryz.func3 q_facts
    q_inst q_wrap
    (fun os started H enc _ => lifted os started H enc)
theorem holds : Rows.SchemaNilCardSaid :=
  Claim7.holds_tied_plain_at .later [] [.data, .data, .data, .pinned, .data, .sentinel, .sentinel] true (true, "aa66c2abf29d01c292129e420cbaf83b2b76d80fa766b9ccb35aadebfc14a6c3") true
    row_holds (fun _ h => by cases h) c_wf (fun _ h => by cases h) row_tie rfl ⟨rfl, rfl⟩ c_main rfl
    (fun f fn hf hfn => by
      obtain rfl : f = 3 := Option.some.inj (q_named.symm.trans hf) |>.symm
      obtain rfl : fn = Tryz.f3 := (Option.some.inj (Tryz.func3.symm.trans hfn)).symm
      exact ⟨c_looks, fun j t ht => by
        rw [Tryz.params3] at ht
        have hm : t ∈ [58, 9] := by simpa using Array.mem_of_getElem? ht
        have hall : ([58, 9].all fun u => !Tryz.prog.wantsStandIn u) = true := c_stand
        exact (show Tryz.prog.wantsStandIn t = false by simpa using List.all_eq_true.1 hall t hm)⟩)
    c_goes
end Go.Proofs.YtjfkcglgdpjkmaaGreatDoor.SchemaNil
