/-
  No cell of these rows narrows 'for every input' (looked for: loops, veiled, ifaces, maps, wideKeys, modest, calm, conditions, laid).
  DERIVED. THE GIVEN ROWS OF THIS SEAT. 7 by the template 'for every input the law returns true; each argument reads behind the call as it read before'; 0 by the template 'total and deterministic' (their statements: YtjifkcfmolnepaaTotals.lean).
  GIVEN WITH THE SEED: the statements are not yours to turn. If you find one false, say at which input.
  Laid BY PROGRAM, IN A SANDBOX (cutbox-rows.mjs): the forced cells as the released guide's own fill.sh prints them over the translation a45ad51211e558c6… (all of the seat's roots in one cut). By AI agents, Wed Nov 11 2026. No macro, syntax, notation, axiom, sorry.
-/
import Derived.Test.YtjifkcfmolnepaaChecked
import GoSem.Claim
import GoSem.ClaimJoined
import GoSem.ClaimMapViews
import Derived.JoinedTies
import Derived.KernelRfl
namespace Go.Proofs.Ytjifkcfmolnepaa
/- THE CELL 'sum', in the pinned program and in every row, IS THE sha256 OF THE DUMP (.gsa) THAT YtjifkcfmolnepaaProg.lean LOADS. Nothing in Lean hashes anything: it is a label: what it is worth is what the hold of that sum in a sandbox is worth. -/
noncomputable def Try.pinned : Pinned := { name := "ytjifkcfmolnepaa", sum := "a45ad51211e558c65277775f2540522fc36b1c51ccc6ab9a65cb78a0e03c95b7", checked := Try.checked }
namespace Rows
def none {H : Type} : Left H := { results := [], args := [] }

/-- 'loupelaw11.RowPicks': WHATEVER THE INPUT: true; the input reads as it did. -/
def rowPicksSpec : ChangeSpec := { name := "rowPicks", fn := fun _ => fun
  | [d1, d2, d3] => { results := [.lit (.bool true)], args := [d1, d2, d3] }
  | _ => none }
def rowPicksRow : OpenClaim := { program := "ytjifkcfmolnepaa", sum := "a45ad51211e558c65277775f2540522fc36b1c51ccc6ab9a65cb78a0e03c95b7", func := "loupe/loupelaw11.RowPicks", spec := "rowPicks", unfollowed := true, recurses := true, apart := false }
def RowPicksSaid : Prop := rowPicksRow.holds Try.pinned (OpenSpec.ofChange rowPicksSpec)

/-- ITS FALSE NEIGHBOUR: 'it returns false'. Refute it at one input. -/
def rowPicksWrong : ChangeSpec := { name := "rowPicks", fn := fun _ => fun
  | [d1, d2, d3] => { results := [.lit (.bool false)], args := [d1, d2, d3] }
  | _ => none }
def RowPicksWrongFalsely : Prop := rowPicksRow.holds Try.pinned (OpenSpec.ofChange rowPicksWrong)

/-- 'loupelaw11.RowHolds': WHATEVER THE INPUT: true; the input reads as it did. -/
def rowHoldsSpec : ChangeSpec := { name := "rowHolds", fn := fun _ => fun
  | [d1, d2] => { results := [.lit (.bool true)], args := [d1, d2] }
  | _ => none }
def rowHoldsRow : OpenClaim := { program := "ytjifkcfmolnepaa", sum := "a45ad51211e558c65277775f2540522fc36b1c51ccc6ab9a65cb78a0e03c95b7", func := "loupe/loupelaw11.RowHolds", spec := "rowHolds", unfollowed := true, recurses := true, apart := false }
def RowHoldsSaid : Prop := rowHoldsRow.holds Try.pinned (OpenSpec.ofChange rowHoldsSpec)

/-- ITS FALSE NEIGHBOUR: 'it returns false'. Refute it at one input. -/
def rowHoldsWrong : ChangeSpec := { name := "rowHolds", fn := fun _ => fun
  | [d1, d2] => { results := [.lit (.bool false)], args := [d1, d2] }
  | _ => none }
def RowHoldsWrongFalsely : Prop := rowHoldsRow.holds Try.pinned (OpenSpec.ofChange rowHoldsWrong)

/-- 'loupelaw11.RowReads': WHATEVER THE INPUT: true; the input reads as it did. -/
def rowReadsSpec : ChangeSpec := { name := "rowReads", fn := fun _ => fun
  | [d1, d2] => { results := [.lit (.bool true)], args := [d1, d2] }
  | _ => none }
def rowReadsRow : OpenClaim := { program := "ytjifkcfmolnepaa", sum := "a45ad51211e558c65277775f2540522fc36b1c51ccc6ab9a65cb78a0e03c95b7", func := "loupe/loupelaw11.RowReads", spec := "rowReads", unfollowed := true, recurses := true, apart := false }
def RowReadsSaid : Prop := rowReadsRow.holds Try.pinned (OpenSpec.ofChange rowReadsSpec)

/-- ITS FALSE NEIGHBOUR: 'it returns false'. Refute it at one input. -/
def rowReadsWrong : ChangeSpec := { name := "rowReads", fn := fun _ => fun
  | [d1, d2] => { results := [.lit (.bool false)], args := [d1, d2] }
  | _ => none }
def RowReadsWrongFalsely : Prop := rowReadsRow.holds Try.pinned (OpenSpec.ofChange rowReadsWrong)

/-- 'loupelaw02.SumDoes': WHATEVER THE INPUT: true; the input reads as it did. -/
def sumDoesSpec : ChangeSpec := { name := "sumDoes", fn := fun _ => fun
  | [d1, d2] => { results := [.lit (.bool true)], args := [d1, d2] }
  | _ => none }
def sumDoesRow : OpenClaim := { program := "ytjifkcfmolnepaa", sum := "a45ad51211e558c65277775f2540522fc36b1c51ccc6ab9a65cb78a0e03c95b7", func := "loupe/loupelaw02.SumDoes", spec := "sumDoes", inPlace := ["internal/abi.NoEscape", "internal/bytealg.MakeNoZero"], unfollowed := true, recurses := true, apart := false }
def SumDoesSaid : Prop := sumDoesRow.holds Try.pinned (OpenSpec.ofChange sumDoesSpec)

/-- ITS FALSE NEIGHBOUR: 'it returns false'. Refute it at one input. -/
def sumDoesWrong : ChangeSpec := { name := "sumDoes", fn := fun _ => fun
  | [d1, d2] => { results := [.lit (.bool false)], args := [d1, d2] }
  | _ => none }
def SumDoesWrongFalsely : Prop := sumDoesRow.holds Try.pinned (OpenSpec.ofChange sumDoesWrong)

/-- 'loupelaw02.SumHolds': WHATEVER THE INPUT: true; the input reads as it did. -/
def sumHoldsSpec : ChangeSpec := { name := "sumHolds", fn := fun _ => fun
  | [d1, d2] => { results := [.lit (.bool true)], args := [d1, d2] }
  | _ => none }
def sumHoldsRow : OpenClaim := { program := "ytjifkcfmolnepaa", sum := "a45ad51211e558c65277775f2540522fc36b1c51ccc6ab9a65cb78a0e03c95b7", func := "loupe/loupelaw02.SumHolds", spec := "sumHolds", inPlace := ["internal/abi.NoEscape", "internal/bytealg.MakeNoZero"], unfollowed := true, recurses := true, apart := false }
def SumHoldsSaid : Prop := sumHoldsRow.holds Try.pinned (OpenSpec.ofChange sumHoldsSpec)

/-- ITS FALSE NEIGHBOUR: 'it returns false'. Refute it at one input. -/
def sumHoldsWrong : ChangeSpec := { name := "sumHolds", fn := fun _ => fun
  | [d1, d2] => { results := [.lit (.bool false)], args := [d1, d2] }
  | _ => none }
def SumHoldsWrongFalsely : Prop := sumHoldsRow.holds Try.pinned (OpenSpec.ofChange sumHoldsWrong)

/-- 'loupelaw02.SumUndoes': WHATEVER THE INPUT: true; the input reads as it did. -/
def sumUndoesSpec : ChangeSpec := { name := "sumUndoes", fn := fun _ => fun
  | [d1, d2] => { results := [.lit (.bool true)], args := [d1, d2] }
  | _ => none }
def sumUndoesRow : OpenClaim := { program := "ytjifkcfmolnepaa", sum := "a45ad51211e558c65277775f2540522fc36b1c51ccc6ab9a65cb78a0e03c95b7", func := "loupe/loupelaw02.SumUndoes", spec := "sumUndoes", inPlace := ["internal/abi.NoEscape", "internal/bytealg.MakeNoZero"], unfollowed := true, recurses := true, apart := false }
def SumUndoesSaid : Prop := sumUndoesRow.holds Try.pinned (OpenSpec.ofChange sumUndoesSpec)

/-- ITS FALSE NEIGHBOUR: 'it returns false'. Refute it at one input. -/
def sumUndoesWrong : ChangeSpec := { name := "sumUndoes", fn := fun _ => fun
  | [d1, d2] => { results := [.lit (.bool false)], args := [d1, d2] }
  | _ => none }
def SumUndoesWrongFalsely : Prop := sumUndoesRow.holds Try.pinned (OpenSpec.ofChange sumUndoesWrong)

/-- 'loupelaw02.SumInfos': WHATEVER THE INPUT: true; the input reads as it did. -/
def sumInfosSpec : ChangeSpec := { name := "sumInfos", fn := fun _ => fun
  | [d1, d2, d3] => { results := [.lit (.bool true)], args := [d1, d2, d3] }
  | _ => none }
def sumInfosRow : OpenClaim := { program := "ytjifkcfmolnepaa", sum := "a45ad51211e558c65277775f2540522fc36b1c51ccc6ab9a65cb78a0e03c95b7", func := "loupe/loupelaw02.SumInfos", spec := "sumInfos", inPlace := ["internal/abi.NoEscape", "internal/bytealg.MakeNoZero"], unfollowed := true, recurses := true, apart := false }
def SumInfosSaid : Prop := sumInfosRow.holds Try.pinned (OpenSpec.ofChange sumInfosSpec)

/-- ITS FALSE NEIGHBOUR: 'it returns false'. Refute it at one input. -/
def sumInfosWrong : ChangeSpec := { name := "sumInfos", fn := fun _ => fun
  | [d1, d2, d3] => { results := [.lit (.bool false)], args := [d1, d2, d3] }
  | _ => none }
def SumInfosWrongFalsely : Prop := sumInfosRow.holds Try.pinned (OpenSpec.ofChange sumInfosWrong)

/- THE SECOND FORM. 'bulk': how many values and letters a reading holds, each counted each time it is reached (what is shared counts as often as it is met; a slice's spare places count too). A statement '..UptoSaid' is the law's where the arguments, and the package variables that the reading takes, are together of bulk at most 1048576: NARROWER than '..Said'. Prove '..Said' where nothing that the law and all that it calls make is longer than what came in: it says more and counts as full. Else prove '..UptoSaid'. A law counts once. -/
mutual
def uptoBulk {H : Type} : DataW H → Nat
  | .lit (.string bytes) => bytes.length + 1
  | .lit _ => 1
  | .nil => 1
  | .ptr d => uptoBulk d + 1
  | .slice elems spare => uptoBulkAll elems + uptoBulkAll spare + 1
  | .agg parts => uptoBulkAll parts + 1
  | .iface _ d => uptoBulk d + 1
  | .map entries => uptoBulkEntries entries + 1
  | .held _ => 1
def uptoBulkAll {H : Type} : List (DataW H) → Nat
  | [] => 0
  | d :: r => uptoBulk d + uptoBulkAll r
def uptoBulkEntries {H : Type} : List (Lit × DataW H) → Nat
  | [] => 0
  | x :: r => uptoBulkEntry x + uptoBulkEntries r
def uptoBulkEntry {H : Type} : Lit × DataW H → Nat
  | (.string bytes, d) => bytes.length + uptoBulk d + 1
  | (_, d) => uptoBulk d + 1
 end
def uptoSmall : (H : Type) → List (DataW H) → Bool := fun _ ds => decide (uptoBulkAll ds ≤ 1048576)
def OpenSpec.upto (s : _root_.Go.ChangeSpec) : _root_.Go.OpenSpec := { _root_.Go.OpenSpec.ofChange s with cond := some uptoSmall }

/-- 'loupelaw11.RowPicks', WHERE WHAT IT READS IS OF BULK AT MOST 1048576: true; the input reads as it did. -/
def rowPicksUptoRow : OpenClaim := { program := "ytjifkcfmolnepaa", sum := "a45ad51211e558c65277775f2540522fc36b1c51ccc6ab9a65cb78a0e03c95b7", func := "loupe/loupelaw11.RowPicks", spec := "rowPicks", unfollowed := true, recurses := true, apart := false, narrowed := true }
def RowPicksUptoSaid : Prop := rowPicksUptoRow.holds Try.pinned (OpenSpec.upto rowPicksSpec)

/-- 'loupelaw11.RowHolds', WHERE WHAT IT READS IS OF BULK AT MOST 1048576: true; the input reads as it did. -/
def rowHoldsUptoRow : OpenClaim := { program := "ytjifkcfmolnepaa", sum := "a45ad51211e558c65277775f2540522fc36b1c51ccc6ab9a65cb78a0e03c95b7", func := "loupe/loupelaw11.RowHolds", spec := "rowHolds", unfollowed := true, recurses := true, apart := false, narrowed := true }
def RowHoldsUptoSaid : Prop := rowHoldsUptoRow.holds Try.pinned (OpenSpec.upto rowHoldsSpec)

/-- 'loupelaw11.RowReads', WHERE WHAT IT READS IS OF BULK AT MOST 1048576: true; the input reads as it did. -/
def rowReadsUptoRow : OpenClaim := { program := "ytjifkcfmolnepaa", sum := "a45ad51211e558c65277775f2540522fc36b1c51ccc6ab9a65cb78a0e03c95b7", func := "loupe/loupelaw11.RowReads", spec := "rowReads", unfollowed := true, recurses := true, apart := false, narrowed := true }
def RowReadsUptoSaid : Prop := rowReadsUptoRow.holds Try.pinned (OpenSpec.upto rowReadsSpec)

/-- 'loupelaw02.SumDoes', WHERE WHAT IT READS IS OF BULK AT MOST 1048576: true; the input reads as it did. -/
def sumDoesUptoRow : OpenClaim := { program := "ytjifkcfmolnepaa", sum := "a45ad51211e558c65277775f2540522fc36b1c51ccc6ab9a65cb78a0e03c95b7", func := "loupe/loupelaw02.SumDoes", spec := "sumDoes", inPlace := ["internal/abi.NoEscape", "internal/bytealg.MakeNoZero"], unfollowed := true, recurses := true, apart := false, narrowed := true }
def SumDoesUptoSaid : Prop := sumDoesUptoRow.holds Try.pinned (OpenSpec.upto sumDoesSpec)

/-- 'loupelaw02.SumHolds', WHERE WHAT IT READS IS OF BULK AT MOST 1048576: true; the input reads as it did. -/
def sumHoldsUptoRow : OpenClaim := { program := "ytjifkcfmolnepaa", sum := "a45ad51211e558c65277775f2540522fc36b1c51ccc6ab9a65cb78a0e03c95b7", func := "loupe/loupelaw02.SumHolds", spec := "sumHolds", inPlace := ["internal/abi.NoEscape", "internal/bytealg.MakeNoZero"], unfollowed := true, recurses := true, apart := false, narrowed := true }
def SumHoldsUptoSaid : Prop := sumHoldsUptoRow.holds Try.pinned (OpenSpec.upto sumHoldsSpec)

/-- 'loupelaw02.SumUndoes', WHERE WHAT IT READS IS OF BULK AT MOST 1048576: true; the input reads as it did. -/
def sumUndoesUptoRow : OpenClaim := { program := "ytjifkcfmolnepaa", sum := "a45ad51211e558c65277775f2540522fc36b1c51ccc6ab9a65cb78a0e03c95b7", func := "loupe/loupelaw02.SumUndoes", spec := "sumUndoes", inPlace := ["internal/abi.NoEscape", "internal/bytealg.MakeNoZero"], unfollowed := true, recurses := true, apart := false, narrowed := true }
def SumUndoesUptoSaid : Prop := sumUndoesUptoRow.holds Try.pinned (OpenSpec.upto sumUndoesSpec)

/-- 'loupelaw02.SumInfos', WHERE WHAT IT READS IS OF BULK AT MOST 1048576: true; the input reads as it did. -/
def sumInfosUptoRow : OpenClaim := { program := "ytjifkcfmolnepaa", sum := "a45ad51211e558c65277775f2540522fc36b1c51ccc6ab9a65cb78a0e03c95b7", func := "loupe/loupelaw02.SumInfos", spec := "sumInfos", inPlace := ["internal/abi.NoEscape", "internal/bytealg.MakeNoZero"], unfollowed := true, recurses := true, apart := false, narrowed := true }
def SumInfosUptoSaid : Prop := sumInfosUptoRow.holds Try.pinned (OpenSpec.upto sumInfosSpec)

end Rows
end Go.Proofs.Ytjifkcfmolnepaa
