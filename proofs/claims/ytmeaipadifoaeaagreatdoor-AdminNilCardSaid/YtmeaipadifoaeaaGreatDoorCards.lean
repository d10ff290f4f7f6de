/-
  DERIVED. GIVEN WITH THE SEED: THE CARDS: each row of YtmeaipadifoaeaaGreatDoorRows.lean that lists a variable, with what it lists TIED to the program's text (the seventh form; the later family's looks); each row that meets fmt, with fmt's text TOLD by the authors' own Lean function (tested against real Go, not proved from fmt's source: count such statements apart). THE CARD IS WHAT COUNTS. Prove the row's statement (the work); the ties are given (YtmeaipadifoaeaaGreatDoorTie.lean); close each card by the builder's one call (the guide's Derived/Test/ToyasCard.lean, 'card_holds'). Laid BY PROGRAM, IN A SANDBOX (cutbox-door.mjs). By AI agents, Wed Nov 11 2026. No macro, syntax, notation, axiom, sorry.
-/
import Derived.Test.YtmeaipadifoaeaaGreatDoorRows
import GoSem.ClaimSeven
namespace Go.Proofs.YtmeaipadifoaeaaGreatDoor
namespace Rows

/-- THE TIED CARD OF 'virgatelaw28.AdminNil'. -/
def adminNilCard : Claim7 := { stood := { row := adminNilRow, standIns := [], harness := (true, "44e1012cc697303c8d50bd71f7472d5bdf391dfae2206ccf046e277b46401bec"), looks := false }, kinds := [], alts := [], laidByText := true, laidKinds := [.data, .pinned], laidTests := true, laidLooks := .later }
def AdminNilCardSaid : Prop := Claim7.holds Tryz.pinned (.plain (OpenSpec.ofChange adminNilSpec)) adminNilCard

/-- THE SECOND FORM's CARD OF 'virgatelaw28.AdminNil'. -/
def adminNilUptoCard : Claim7 := { stood := { row := adminNilUptoRow, standIns := [], harness := (true, "44e1012cc697303c8d50bd71f7472d5bdf391dfae2206ccf046e277b46401bec"), looks := false }, kinds := [], alts := [], laidByText := true, laidKinds := [.data, .pinned], laidTests := true, laidLooks := .later }
def AdminNilUptoCardSaid : Prop := Claim7.holds Tryz.pinned (.plain (OpenSpec.upto adminNilSpec)) adminNilUptoCard
end Rows
end Go.Proofs.YtmeaipadifoaeaaGreatDoor
