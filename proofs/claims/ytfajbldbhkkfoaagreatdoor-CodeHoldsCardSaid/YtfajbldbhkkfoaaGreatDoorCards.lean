/-
  DERIVED. GIVEN WITH THE SEED: THE CARDS: each row of YtfajbldbhkkfoaaGreatDoorRows.lean that lists a variable, with what it lists TIED to the program's text (the seventh form; the later family's looks); each row that meets fmt, with fmt's text TOLD by the authors' own Lean function (tested against real Go, not proved from fmt's source: count such statements apart). THE CARD IS WHAT COUNTS. Prove the row's statement (the work); the ties are given (YtfajbldbhkkfoaaGreatDoorTie.lean); close each card by the builder's one call (the guide's Derived/Test/ToyasCard.lean, 'card_holds'). Laid BY PROGRAM, IN A SANDBOX (cutbox-door.mjs). By AI agents, Wed Nov 11 2026. No macro, syntax, notation, axiom, sorry.
-/
import Derived.Test.YtfajbldbhkkfoaaGreatDoorRows
import GoSem.ClaimSeven
namespace Go.Proofs.YtfajbldbhkkfoaaGreatDoor
namespace Rows

/-- THE TIED CARD OF 'loupelaw29.CodeChecks'. -/
def codeChecksCard : Claim7 := { stood := { row := codeChecksRow, standIns := [], harness := (true, "c1e2047b2c4486c6f6b441a278f4626937adb23e58bede47200e0d6f07019b50"), looks := true }, kinds := [], alts := [], laidByText := true, laidKinds := [.data, .data, .data, .data, .pinned], laidTests := true, laidLooks := .later }
def CodeChecksCardSaid : Prop := Claim7.holds Tryz.pinned (.plain (OpenSpec.ofChange codeChecksSpec)) codeChecksCard

/-- THE TIED CARD OF 'loupelaw29.CodeTargets'. -/
def codeTargetsCard : Claim7 := { stood := { row := codeTargetsRow, standIns := [], harness := (true, "c1e2047b2c4486c6f6b441a278f4626937adb23e58bede47200e0d6f07019b50"), looks := true }, kinds := [], alts := [], laidByText := true, laidKinds := [.data, .data, .data, .data, .pinned], laidTests := true, laidLooks := .later }
def CodeTargetsCardSaid : Prop := Claim7.holds Tryz.pinned (.plain (OpenSpec.ofChange codeTargetsSpec)) codeTargetsCard

/-- THE TIED CARD OF 'loupelaw29.CodeReads'. -/
def codeReadsCard : Claim7 := { stood := { row := codeReadsRow, standIns := [], harness := (true, "c1e2047b2c4486c6f6b441a278f4626937adb23e58bede47200e0d6f07019b50"), looks := true }, kinds := [], alts := [], laidByText := true, laidKinds := [.data, .data, .data, .data, .pinned], laidTests := true, laidLooks := .later }
def CodeReadsCardSaid : Prop := Claim7.holds Tryz.pinned (.plain (OpenSpec.ofChange codeReadsSpec)) codeReadsCard

/-- THE TIED CARD OF 'loupelaw29.CodeBytes'. -/
def codeBytesCard : Claim7 := { stood := { row := codeBytesRow, standIns := [], harness := (true, "c1e2047b2c4486c6f6b441a278f4626937adb23e58bede47200e0d6f07019b50"), looks := true }, kinds := [], alts := [], laidByText := true, laidKinds := [.data, .data, .data, .data, .pinned], laidTests := true, laidLooks := .later }
def CodeBytesCardSaid : Prop := Claim7.holds Tryz.pinned (.plain (OpenSpec.ofChange codeBytesSpec)) codeBytesCard

/-- THE TIED CARD OF 'loupelaw29.CodeHolds'. -/
def codeHoldsCard : Claim7 := { stood := { row := codeHoldsRow, standIns := [], harness := (true, "c1e2047b2c4486c6f6b441a278f4626937adb23e58bede47200e0d6f07019b50"), looks := true }, kinds := [], alts := [], laidByText := true, laidKinds := [.data, .data, .data, .data, .pinned], laidTests := true, laidLooks := .later }
def CodeHoldsCardSaid : Prop := Claim7.holds Tryz.pinned (.plain (OpenSpec.ofChange codeHoldsSpec)) codeHoldsCard

/-- THE SECOND FORM's CARD OF 'loupelaw29.CodeChecks'. -/
def codeChecksUptoCard : Claim7 := { stood := { row := codeChecksUptoRow, standIns := [], harness := (true, "c1e2047b2c4486c6f6b441a278f4626937adb23e58bede47200e0d6f07019b50"), looks := true }, kinds := [], alts := [], laidByText := true, laidKinds := [.data, .data, .data, .data, .pinned], laidTests := true, laidLooks := .later }
def CodeChecksUptoCardSaid : Prop := Claim7.holds Tryz.pinned (.plain (OpenSpec.upto codeChecksSpec)) codeChecksUptoCard

/-- THE SECOND FORM's CARD OF 'loupelaw29.CodeTargets'. -/
def codeTargetsUptoCard : Claim7 := { stood := { row := codeTargetsUptoRow, standIns := [], harness := (true, "c1e2047b2c4486c6f6b441a278f4626937adb23e58bede47200e0d6f07019b50"), looks := true }, kinds := [], alts := [], laidByText := true, laidKinds := [.data, .data, .data, .data, .pinned], laidTests := true, laidLooks := .later }
def CodeTargetsUptoCardSaid : Prop := Claim7.holds Tryz.pinned (.plain (OpenSpec.upto codeTargetsSpec)) codeTargetsUptoCard

/-- THE SECOND FORM's CARD OF 'loupelaw29.CodeReads'. -/
def codeReadsUptoCard : Claim7 := { stood := { row := codeReadsUptoRow, standIns := [], harness := (true, "c1e2047b2c4486c6f6b441a278f4626937adb23e58bede47200e0d6f07019b50"), looks := true }, kinds := [], alts := [], laidByText := true, laidKinds := [.data, .data, .data, .data, .pinned], laidTests := true, laidLooks := .later }
def CodeReadsUptoCardSaid : Prop := Claim7.holds Tryz.pinned (.plain (OpenSpec.upto codeReadsSpec)) codeReadsUptoCard

/-- THE SECOND FORM's CARD OF 'loupelaw29.CodeBytes'. -/
def codeBytesUptoCard : Claim7 := { stood := { row := codeBytesUptoRow, standIns := [], harness := (true, "c1e2047b2c4486c6f6b441a278f4626937adb23e58bede47200e0d6f07019b50"), looks := true }, kinds := [], alts := [], laidByText := true, laidKinds := [.data, .data, .data, .data, .pinned], laidTests := true, laidLooks := .later }
def CodeBytesUptoCardSaid : Prop := Claim7.holds Tryz.pinned (.plain (OpenSpec.upto codeBytesSpec)) codeBytesUptoCard

/-- THE SECOND FORM's CARD OF 'loupelaw29.CodeHolds'. -/
def codeHoldsUptoCard : Claim7 := { stood := { row := codeHoldsUptoRow, standIns := [], harness := (true, "c1e2047b2c4486c6f6b441a278f4626937adb23e58bede47200e0d6f07019b50"), looks := true }, kinds := [], alts := [], laidByText := true, laidKinds := [.data, .data, .data, .data, .pinned], laidTests := true, laidLooks := .later }
def CodeHoldsUptoCardSaid : Prop := Claim7.holds Tryz.pinned (.plain (OpenSpec.upto codeHoldsSpec)) codeHoldsUptoCard
end Rows
end Go.Proofs.YtfajbldbhkkfoaaGreatDoor
