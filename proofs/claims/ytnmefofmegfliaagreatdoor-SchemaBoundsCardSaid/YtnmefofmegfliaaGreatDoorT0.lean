/- The translation's tables for the evaluation, what is evaluated: no condition. -/
import Derived.Test.YtnmefofmegfliaaGreatDoorE5
import Derived.Test.YtnmefofmegfliaaGreatDoorProg
set_option linter.unusedVariables false
set_option linter.unusedSimpArgs false
set_option linter.unusedSectionVars false
namespace Go.L.Ev
open Go Go.RowKit Go.Proofs
noncomputable def ty0 : TyT := ⟨Tr.ofL 745 Tryz.prog.types.toList, [28, 33, 65, 92]⟩
noncomputable def fu0 : FuT := Tr.ofL 745 Tryz.prog.funcs.toList
noncomputable def h0 : Hp := ⟨0, .lf⟩
noncomputable def ov0 : OvT := [(565, .orc orcIB), (279, .orc (orcSK 25)), (193, .orc orcJoin), (12, .cgt 69), (53, .cgt 69), (253, .cgt 69), (266, .cgt 69), (271, .cgt 69), (344, .cg1 69), (462, .cgt 69), (505, .cgt 69), (591, .cgt 69)]
end Go.L.Ev
set_option maxRecDepth 100000
namespace Go.L.Ev
open Go Go.RowKit Go.Proofs
/-- The number of a column's, a table's name. -/
noncomputable def nmN (a j : Nat) : Nat := Nat.add a (Nat.mul 256 (Nat.add (Nat.add 97 (Nat.mod j 26)) (Nat.mul 256 (Nat.add 97 (Nat.div j 26)))))
noncomputable def natL (n : Nat) (κ : Nat → List RV) : List RV := @Nat.rec (fun _ => List RV) (κ 0) (fun m _ => κ (Nat.succ m)) n
noncomputable def colT (m : Nat) : List RV := [.str m 3, .int .i64 2, .bool false, .bool false, .bool false, .int .i64 0, .int .i64 0, .int .i64 0, .str 0 0, .str 0 0, .str 0 0, .int .i64 0, .nils, .str 0 0, .str 0 0, .int .i64 0]
noncomputable def colC (j : Nat) : List RV := natL (nmN 99 j) colT
/-- The same, worked out. -/
noncomputable def colsK (c : Nat) : List RV → (List RV → Bool) → Bool := @Nat.rec (fun _ => List RV → (List RV → Bool) → Bool) (fun acc κ => κ acc) (fun j ih acc κ => natF (nmN 99 j) fun m => ih (.str m 3 :: .int .i64 2 :: .bool false :: .bool false :: .bool false :: .int .i64 0 :: .int .i64 0 :: .int .i64 0 :: .str 0 0 :: .str 0 0 :: .str 0 0 :: .int .i64 0 :: .nils :: .str 0 0 :: .str 0 0 :: .int .i64 0 :: acc) κ) c
noncomputable def colsC (c : Nat) : List RV := @Nat.rec (fun _ => List RV) [] (fun j ih => List.append ih (colC j)) c
/-- A table's statement, its columns in row i. -/
noncomputable def xA (i c : Nat) : List RV := [.int .i64 3, .bool false, .nils, .str 0 0, .str 0 0, .nils, .int .i64 0, .int .i64 0, .int .i64 0, .str 0 0, .str 0 0, .str 0 0, .int .i64 0, .nils, .nils, .int .i64 0, .int .i64 0, .int .i64 0, .str 0 0, .str 0 0, .str 0 0, .int .i64 0, .nils, .nils, .int .i64 0, .int .i64 0, .str 0 0, .str 0 0, .nils, .nils, .bool false, .bool false, .nils, .str 0 0, .str 0 0, .nils, .int .i64 0, .int .i64 0, .int .i64 0, .str 0 0, .str 0 0, .str 0 0, .int .i64 0, .nils, .nils, .int .i64 0, .int .i64 0, .int .i64 0, .str 0 0, .str 0 0, .str 0 0, .int .i64 0, .nils, .nils, .int .i64 0, .nils, .int .i64 0, .nils, .int .i64 0, .int .i64 0, .int .i64 0, .str 0 0, .str 0 0, .str 0 0, .int .i64 0, .nils, .str 0 0, .str 0 0, .int .i64 0, .int .i64 0, .int .i64 0, .str 0 0, .str 0 0, .str 0 0, .int .i64 0, .nils, .nils, .nils, .str 1 0, .slc i 0 0 c, .nils, .nils, .nils, .str 0 0, .str 0 0, .nils, .bool false, .str 0 0, .nils, .bool false, .nils, .str 0 0, .str 0 0, .nils, .int .i64 0, .int .i64 0, .int .i64 0, .str 0 0, .str 0 0, .str 0 0, .int .i64 0, .nils, .nils, .int .i64 0, .int .i64 0, .int .i64 0, .str 0 0, .str 0 0, .str 0 0, .int .i64 0, .nils, .nils, .int .i64 0, .int .i64 0, .str 0 0, .int .i64 0, .str 0 0, .int .i64 0, .str 0 0, .str 0 0, .nils, .nils, .bool false, .bool false, .nils, .str 0 0, .str 0 0, .nils, .int .i64 0, .int .i64 0, .int .i64 0, .str 0 0, .str 0 0, .str 0 0, .int .i64 0, .nils, .nils, .int .i64 0, .int .i64 0, .int .i64 0, .str 0 0, .str 0 0, .str 0 0, .int .i64 0, .nils, .nils, .int .i64 0, .nils, .int .i64 0, .nils, .int .i64 0, .int .i64 0, .int .i64 0, .str 0 0, .str 0 0, .str 0 0, .int .i64 0, .nils, .str 0 0, .str 0 0, .int .i64 0, .int .i64 0, .int .i64 0, .str 0 0, .str 0 0, .str 0 0, .int .i64 0, .nils, .nils, .nils, .str 0 0]
noncomputable def rowC (c : Nat) : Ob := .row 67 16 c (colsC c)
noncomputable def fldT (s l m : Nat) : List RV := [.str s l, .str m 3, .int .i64 2]
noncomputable def fldC (s l : Nat) (j : Nat) : List RV := natL (nmN 99 j) (fldT s l)
noncomputable def fldsK (s l : Nat) (c : Nat) : List RV → (List RV → Bool) → Bool := @Nat.rec (fun _ => List RV → (List RV → Bool) → Bool) (fun acc κ => κ acc) (fun j ih acc κ => natF (nmN 99 j) fun m => ih (.str s l :: .str m 3 :: .int .i64 2 :: acc) κ) c
noncomputable def fldsC (s l : Nat) (c : Nat) : List RV := @Nat.rec (fun _ => List RV) [] (fun j ih => List.append ih (fldC s l j)) c
noncomputable def rowF (s l c : Nat) : Ob := .row 92 3 c (fldsC s l c)
noncomputable def newA (i j c : Nat) : List RV := List.append (xA i c) [.int .i64 0, .str 0 0, .slc j 0 0 c]
noncomputable def colNs : List Nat := @Nat.rec (fun _ => List Nat) [] (fun j ih => nmN 99 j :: ih) 32
/-- A name that may be: one of the columns', one of the tables'. -/
noncomputable def orcName : List RV → Hp → K → Bool := fun args h k => iff (lenIs args 1) (nthK args 0 fun v => rvStrQ v fun m n => iff (Nat.beq n 0) (iff (Nat.ble 1 m) (k (.bool true) h) false) (iff (Nat.beq n 3) (iff (memN colNs m) (k (.bool true) h) false) false)) false
noncomputable def ovB : OvT := (78, .orc orcName) :: ov0
noncomputable def pieceC (c f : Nat) (a : List RV) (κ : List RV → RV → Hp → Bool) : Bool := colsK c [] fun l => setsK [(2, .row 67 16 c l)] (Hp.pad .lf 3) fun h => run ty0 fu0 ovB 1000 false f a h (fun r h' => κ l r h') (fun _ _ => false)
noncomputable def chkP (c : Nat) : Bool := pieceC c 16 [.agg (xA 2 c)] fun l r h' => iff (rvEq r (.int .i64 0)) (allK h' [(2, .row 67 16 c l)] true) false
noncomputable def cloP (c : Nat) : Bool := pieceC c 20 [.agg (xA 2 c)] fun cl r h' => rvAgg r fun l => nthK l 79 fun v => rvSlc v fun j _ _ _ => iff (Nat.blt 2 j) (iff (rvEqL l (xA j c)) (allK h' [(2, .row 67 16 c cl), (j, .row 67 16 c cl)] true) false) false
noncomputable def newP (c : Nat) : Bool := pieceC c 34 [.ptr 0 0, .agg (xA 2 c)] fun cl r h' => rvAgg r fun l => nthK l 173 fun v => rvSlc v fun j _ _ _ => iff (Nat.blt 2 j) (iff (rvEqL l (newA 2 j c)) (fldsK 0 0 c [] fun fl => allK h' [(2, .row 67 16 c cl), (j, .row 92 3 c fl)] true) false) false
/-- A name is one that may be. -/
noncomputable def nmP (m : Nat) : Bool := run ty0 fu0 ov0 1000 false 78 [.str m 3] ⟨0, .lf⟩ (fun r _ => rvEq r (.bool true)) (fun _ _ => false)
noncomputable def nmsP (a s n : Nat) : Bool := @Nat.rec (fun _ => Bool) true (fun j ih => iff (natF (nmN a (Nat.add s j)) nmP) ih false) n
end Go.L.Ev
set_option maxRecDepth 100000
namespace Go.L.Ev
open Go Go.RowKit Go.Proofs
/-- What is asked: all fields, of one table and so many joins. -/
noncomputable def itemA : Ob := .row 72 11 1 [.bool true, .str 0 0, .int .i64 0, .int .i64 0, .int .i64 0, .str 0 0, .str 0 0, .str 0 0, .int .i64 0, .nils, .str 0 0]
noncomputable def joinA (i : Nat) : List RV := [.str 6381940 3, .str (Nat.add 120 (Nat.mul 256 (Nat.add 97 i))) 2, .int .i64 1, .int .i64 1, .int .i64 1, .str 0 0, .str 0 0, .str 0 0, .int .i64 0, .nils]
noncomputable def joinsA (m : Nat) : List RV := @Nat.rec (fun _ => List RV) [] (fun j ih => List.append ih (joinA (Nat.succ j))) m
noncomputable def rowJ (m : Nat) : Ob := .row 74 10 m (joinsA m)
noncomputable def jnA (m : Nat) : RV := @Nat.rec (fun _ => RV) .nils (fun j _ => .slc 1 0 0 (Nat.succ j)) m
noncomputable def l0A (m : Nat) : ObL := (0, itemA) :: @Nat.rec (fun _ => ObL) [] (fun j _ => [(1, rowJ (Nat.succ j))]) m
noncomputable def qA (jn : RV) : List RV := [.bool false, .slc 0 0 0 1, .str 6381940 3, .str 120 1, jn, .int .i64 0, .int .i64 0, .int .i64 0, .str 0 0, .str 0 0, .str 0 0, .int .i64 0, .nils, .nils, .int .i64 0, .int .i64 0, .int .i64 0, .str 0 0, .str 0 0, .str 0 0, .int .i64 0, .nils, .nils, .int .i64 (-1)]
/-- The schema lies outside. -/
noncomputable def orcN : List RV → Hp → K → Bool := fun args h k => iff (lenIs args 1) (nthK args 0 fun v => iff (rvEq v (.glob 1000000 0)) (k (.bool false) h) false) false
noncomputable def orcF (c : Nat) : List RV → Hp → K → Bool := fun args h k => iff (lenIs args 3) (nthK args 0 fun v => iff (rvEq v (.glob 1000000 0)) (nthK args 1 fun u => iff (rvEq u (.str 6381940 3)) (nthK args 2 fun a => rvStr a fun s l => fldsK s l c [] fun fl => push (.row 92 3 c fl) h fun j h' => k (.slc j 0 0 c) h') false) false) false
/-- That the query may be: asked once for so many joins. -/
noncomputable def qN (m : Nat) : Nat := Nat.add 104 (Nat.mul 100 m)
noncomputable def qS (m n : Nat) : Snap := ⟨47, 7, l0A m, [.agg (qA (jnA m))], .int .i64 0, n, l0A m⟩
noncomputable def ovA (m n c : Nat) : OvT := (47, .orc (orcs [qS m n])) :: (26, .orc (orcF c)) :: (15, .orc orcN) :: ov0
noncomputable def pieceA (m c : Nat) (κ : RV → Hp → Bool) : Bool := natF (qN m) fun n => setsK (l0A m) (Hp.pad .lf 2) fun h => run ty0 fu0 (ovA m n c) 1000 false 8 [.glob 1000000 0, .agg (qA (jnA m))] h κ (fun _ _ => false)
/-- Answered: so many items and fields; or refused. -/
noncomputable def ansA (m c : Nat) (κ : Bool) (r : RV) : Bool := rvTup r fun l => iff (lenIs l 2) (nthK l 0 fun a => nthK l 1 fun e => rvAgg a fun x => iff (lenIs x 29) (iff (allOne x)
  (iff (Nat.blt 32 (Nat.mul (Nat.succ m) c)) (iff (rvEq e (.int .i64 3)) (nthK x 13 fun u => iff (rvEq u .nils) κ false) false)
    (iff (rvEq e (.int .i64 0)) (nthK x 13 fun u => rvSlc u fun _ _ _ n => iff (Nat.beq n (Nat.mul (Nat.succ m) c)) (nthK x 1 fun v => rvSlc v fun _ _ _ n => iff (Nat.beq n (Nat.mul (Nat.succ m) c)) κ false) false) false)) false) false) false
noncomputable def askP (m c : Nat) : Bool := pieceA m c fun r h' => ansA m c (allK h' (l0A m) true) r
end Go.L.Ev
