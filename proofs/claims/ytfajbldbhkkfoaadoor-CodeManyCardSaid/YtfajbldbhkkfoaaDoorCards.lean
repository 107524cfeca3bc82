/-
  DERIVED. GIVEN WITH THE SEED: THE CARDS: each row of YtfajbldbhkkfoaaDoorRows.lean that lists a variable, with what it lists TIED to the program's text (the seventh form; the later family's looks); each row that meets fmt, with fmt's text TOLD by the authors' own Lean function (tested against real Go, not proved from fmt's source: count such statements apart). THE CARD IS WHAT COUNTS. Prove the row's statement (the work); the ties are given (YtfajbldbhkkfoaaDoorTie.lean); close each card by the builder's one call (the guide's Derived/Test/ToyasCard.lean, 'card_holds'). Laid BY PROGRAM, IN A SANDBOX (cutbox-door.mjs). By AI agents, Wed Nov 11 2026. No macro, syntax, notation, axiom, sorry.
-/
import Derived.Test.YtfajbldbhkkfoaaDoorRows
import GoSem.ClaimSeven
namespace Go.Proofs.YtfajbldbhkkfoaaDoor
namespace Rows

/-- THE TIED CARD OF 'loupelaw10.KeyHolds'. -/
def keyHoldsCard : Claim7 := { stood := { row := keyHoldsRow, standIns := [], harness := (true, "b160d5d6a9d1539d5d16da2a56f9758a5c8b1ac9e283e52a5224ef2d831e2123"), looks := true }, kinds := [], alts := [], laidByText := true, laidKinds := [.data, .pinned], laidTests := true, laidLooks := .later }
def KeyHoldsCardSaid : Prop := Claim7.holds Tryd.pinned (.plain (OpenSpec.ofChange keyHoldsSpec)) keyHoldsCard

/-- THE TIED CARD OF 'loupelaw10.KeyReads'. -/
def keyReadsCard : Claim7 := { stood := { row := keyReadsRow, standIns := [], harness := (true, "b160d5d6a9d1539d5d16da2a56f9758a5c8b1ac9e283e52a5224ef2d831e2123"), looks := true }, kinds := [], alts := [], laidByText := true, laidKinds := [.data, .pinned], laidTests := true, laidLooks := .later }
def KeyReadsCardSaid : Prop := Claim7.holds Tryd.pinned (.plain (OpenSpec.ofChange keyReadsSpec)) keyReadsCard

/-- THE TIED CARD OF 'loupelaw29.CodeMany'. -/
def codeManyCard : Claim7 := { stood := { row := codeManyRow, standIns := [], harness := (true, "b160d5d6a9d1539d5d16da2a56f9758a5c8b1ac9e283e52a5224ef2d831e2123"), looks := true }, kinds := [], alts := [], laidByText := true, laidKinds := [.data, .data, .data, .data, .pinned], laidTests := true, laidLooks := .later }
def CodeManyCardSaid : Prop := Claim7.holds Tryd.pinned (.plain (OpenSpec.ofChange codeManySpec)) codeManyCard

/-- THE SECOND FORM's CARD OF 'loupelaw10.KeyHolds'. -/
def keyHoldsUptoCard : Claim7 := { stood := { row := keyHoldsUptoRow, standIns := [], harness := (true, "b160d5d6a9d1539d5d16da2a56f9758a5c8b1ac9e283e52a5224ef2d831e2123"), looks := true }, kinds := [], alts := [], laidByText := true, laidKinds := [.data, .pinned], laidTests := true, laidLooks := .later }
def KeyHoldsUptoCardSaid : Prop := Claim7.holds Tryd.pinned (.plain (OpenSpec.upto keyHoldsSpec)) keyHoldsUptoCard

/-- THE SECOND FORM's CARD OF 'loupelaw10.KeyReads'. -/
def keyReadsUptoCard : Claim7 := { stood := { row := keyReadsUptoRow, standIns := [], harness := (true, "b160d5d6a9d1539d5d16da2a56f9758a5c8b1ac9e283e52a5224ef2d831e2123"), looks := true }, kinds := [], alts := [], laidByText := true, laidKinds := [.data, .pinned], laidTests := true, laidLooks := .later }
def KeyReadsUptoCardSaid : Prop := Claim7.holds Tryd.pinned (.plain (OpenSpec.upto keyReadsSpec)) keyReadsUptoCard

/-- THE SECOND FORM's CARD OF 'loupelaw29.CodeMany'. -/
def codeManyUptoCard : Claim7 := { stood := { row := codeManyUptoRow, standIns := [], harness := (true, "b160d5d6a9d1539d5d16da2a56f9758a5c8b1ac9e283e52a5224ef2d831e2123"), looks := true }, kinds := [], alts := [], laidByText := true, laidKinds := [.data, .data, .data, .data, .pinned], laidTests := true, laidLooks := .later }
def CodeManyUptoCardSaid : Prop := Claim7.holds Tryd.pinned (.plain (OpenSpec.upto codeManySpec)) codeManyUptoCard
end Rows
end Go.Proofs.YtfajbldbhkkfoaaDoor
