/-
  DERIVED. GIVEN WITH THE SEED: THE CARDS: each row of YtnbmecmlaafmaaaGreatDoorRows.lean that lists a variable, with what it lists TIED to the program's text (the seventh form; the later family's looks); each row that meets fmt, with fmt's text TOLD by the authors' own Lean function (tested against real Go, not proved from fmt's source: count such statements apart). THE CARD IS WHAT COUNTS. Prove the row's statement (the work); the ties are given (YtnbmecmlaafmaaaGreatDoorTie.lean); close each card by the builder's one call (the guide's Derived/Test/ToyasCard.lean, 'card_holds'). Laid BY PROGRAM, IN A SANDBOX (cutbox-door.mjs). By AI agents, Wed Nov 11 2026. No macro, syntax, notation, axiom, sorry.
-/
import Derived.Test.YtnbmecmlaafmaaaGreatDoorRows
import GoSem.ClaimSeven
namespace Go.Proofs.YtnbmecmlaafmaaaGreatDoor
namespace Rows

/-- THE TIED CARD OF 'virgatelaw23.DropNil'. -/
def dropNilCard : Claim7 := { stood := { row := dropNilRow, standIns := [], harness := (true, "80d659aa7a39bf554e650cd7760fe4ede68e55ae0b62a8860988f928d28ece51"), looks := false }, kinds := [], alts := [], laidByText := true, laidKinds := [.data, .pinned], laidTests := true, laidLooks := .later }
def DropNilCardSaid : Prop := Claim7.holds Tryz.pinned (.plain (OpenSpec.ofChange dropNilSpec)) dropNilCard

/-- THE SECOND FORM's CARD OF 'virgatelaw23.DropNil'. -/
def dropNilUptoCard : Claim7 := { stood := { row := dropNilUptoRow, standIns := [], harness := (true, "80d659aa7a39bf554e650cd7760fe4ede68e55ae0b62a8860988f928d28ece51"), looks := false }, kinds := [], alts := [], laidByText := true, laidKinds := [.data, .pinned], laidTests := true, laidLooks := .later }
def DropNilUptoCardSaid : Prop := Claim7.holds Tryz.pinned (.plain (OpenSpec.upto dropNilSpec)) dropNilUptoCard
end Rows
end Go.Proofs.YtnbmecmlaafmaaaGreatDoor
