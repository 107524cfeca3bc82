/- The translation's tables for the evaluation, and the sorted keys of a map: no condition. -/
import Derived.Test.YtjfkcglgdpjkmaaGreatDoorE5
import Derived.Test.YtjfkcglgdpjkmaaGreatDoorProg
import Derived.Test.YtjfkcglgdpjkmaaGreatDoorSH
set_option linter.unusedVariables false
set_option linter.unusedSimpArgs false
namespace Go.L.Ev
open Go Go.RowKit Go.Proofs
noncomputable def ty0 : TyT := ⟨Tr.ofL 763 Tryz.prog.types.toList, [25, 30, 138, 156]⟩
noncomputable def fu0 : FuT := Tr.ofL 763 Tryz.prog.funcs.toList
noncomputable def h0 : Hp := ⟨0, .lf⟩
noncomputable def ov0 : OvT := [(607, .orc orcIB), (360, .orc (orcSK 22)), (243, .orc orcJoin), (18, .cgt 61), (196, .cgt 61), (218, .cgt 61), (347, .cgt 61), (352, .cgt 61), (414, .cg1 61), (441, .cgt 61), (558, .cgt 61), (582, .cgt 61)]
end Go.L.Ev
set_option maxRecDepth 100000
namespace Go.L
open Go Go.RowKit Go.Proofs
/-- loupe/define.sorted -/
def vc360 (l : Value) (R : Ending → World → Prop) (w : World) : Prop :=
 kRng (cR Tryz.prog R) w 167 l fun v5 w_1 =>
 kLoopF [(.slice none 0 0)] w_1 fun cs ds w_2 N =>
 (fun x2 =>
 kNxt (cR Tryz.prog R) w_2 v5 false 0 fun v6 w_3 =>
 kExt v6 0 fun v7 =>
 kIf v7 (
 kEnt (cR Tryz.prog R) w_3 v5 fun v8 w_4 =>
 kExt v8 0 fun v9 =>
 kBuildS (cR Tryz.prog R) w_4 393 1 #[(0, v9)] fun v12 w_5 =>
 kBlt (cR Tryz.prog R) w_5 .append #[393, 393] 393 #[false, false] #[x2, v12] fun v13 w_6 =>
 kD [] [] (N [v13] w_6)) (
 kCall (cR Tryz.prog R) w_3 439 #[x2] fun v15 w_7 =>
 R (.returned x2) w_7)) (cs.getD 0 undef)
theorem c360 (l : Value) (R : Ending → World → Prop) (w : World) (h : vc360 l R w) : Calls Tryz.prog 360 #[l] w R :=
  calls_of_vc (A := { loops := [(0, [2])], pars := [] }) (Eq.mpr (show FnVc Tryz.prog { loops := [(0, [2])], pars := [] } 17 360 [l] R w = vc360 l R w by kernel_rfl) h)
end Go.L
namespace Go.L.Ev
open Go Go.RowKit Go.Proofs
theorem elt393 (w : World) : Elt Tryz.prog 393 22 1 8 := ⟨Tryz.underlying393, ⟨Tryz.t22, _, info_of (Tryz.typeInfo22 w), rfl, rfl, rfl, rfl⟩, by omega, by omega⟩
theorem sorted360 (w : World) (bm : Nat) (es : Array MapEntry) (clock : Nat) (ks : List Int) (hb : w.heap[bm]? = some (.map es clock)) (hk : es.toList.map (·.key) = ks.map vI) (hn : (es.toList.map (·.born)).Nodup) (hold : ∀ x ∈ es.toList, x.born < clock) (h0 : 0 < ks.length) (hl : ks.length ≤ 1000) :
    Calls Tryz.prog 360 #[.map (some bm)] w fun en W => ∃ x, en = .returned x ∧ Go.L.St w [.row x 22 1 ks.length ((sortI ks).map vI)] W :=
  c360 _ _ _ (sorted_walk Tryz.underlying167 (elt393 w) Tryz.call439 (fun blk off cap zs w h1 h2 h3 => Tryz.slices_Sort_int blk off cap zs w h1 h2 h3) hb hk hn hold h0 hl fun x V hS => ⟨x, rfl, hS⟩)
end Go.L.Ev
