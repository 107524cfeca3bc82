/-
  DERIVED. GIVEN WITH THE SEED: THE CARDS: each row of YtjfkcglgdpjkmaaGreatDoorRows.lean that lists a variable, with what it lists TIED to the program's text (the seventh form; the later family's looks); each row that meets fmt, with fmt's text TOLD by the authors' own Lean function (tested against real Go, not proved from fmt's source: count such statements apart). THE CARD IS WHAT COUNTS. Prove the row's statement (the work); the ties are given (YtjfkcglgdpjkmaaGreatDoorTie.lean); close each card by the builder's one call (the guide's Derived/Test/ToyasCard.lean, 'card_holds'). Laid BY PROGRAM, IN A SANDBOX (cutbox-door.mjs). By AI agents, Wed Nov 11 2026. No macro, syntax, notation, axiom, sorry.
-/
import Derived.Test.YtjfkcglgdpjkmaaGreatDoorRows
import GoSem.ClaimSeven
namespace Go.Proofs.YtjfkcglgdpjkmaaGreatDoor
namespace Rows

/-- THE TIED CARD OF 'loupelaw21.SchemaNil'. -/
def schemaNilCard : Claim7 := { stood := { row := schemaNilRow, standIns := [], harness := (true, "aa66c2abf29d01c292129e420cbaf83b2b76d80fa766b9ccb35aadebfc14a6c3"), looks := true }, kinds := [], alts := [], laidByText := true, laidKinds := [.data, .data, .data, .pinned, .data, .sentinel, .sentinel], laidTests := true, laidLooks := .later }
def SchemaNilCardSaid : Prop := Claim7.holds Tryz.pinned (.plain (OpenSpec.ofChange schemaNilSpec)) schemaNilCard

/-- THE SECOND FORM's CARD OF 'loupelaw21.SchemaNil'. -/
def schemaNilUptoCard : Claim7 := { stood := { row := schemaNilUptoRow, standIns := [], harness := (true, "aa66c2abf29d01c292129e420cbaf83b2b76d80fa766b9ccb35aadebfc14a6c3"), looks := true }, kinds := [], alts := [], laidByText := true, laidKinds := [.data, .data, .data, .pinned, .data, .sentinel, .sentinel], laidTests := true, laidLooks := .later }
def SchemaNilUptoCardSaid : Prop := Claim7.holds Tryz.pinned (.plain (OpenSpec.upto schemaNilSpec)) schemaNilUptoCard
end Rows
end Go.Proofs.YtjfkcglgdpjkmaaGreatDoor
