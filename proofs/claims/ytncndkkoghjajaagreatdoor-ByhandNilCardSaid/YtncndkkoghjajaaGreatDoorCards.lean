/-
  DERIVED. GIVEN WITH THE SEED: THE CARDS: each row of YtncndkkoghjajaaGreatDoorRows.lean that lists a variable, with what it lists TIED to the program's text (the seventh form; the later family's looks); each row that meets fmt, with fmt's text TOLD by the authors' own Lean function (tested against real Go, not proved from fmt's source: count such statements apart). THE CARD IS WHAT COUNTS. Prove the row's statement (the work); the ties are given (YtncndkkoghjajaaGreatDoorTie.lean); close each card by the builder's one call (the guide's Derived/Test/ToyasCard.lean, 'card_holds'). Laid BY PROGRAM, IN A SANDBOX (cutbox-door.mjs). By AI agents, Wed Nov 11 2026. No macro, syntax, notation, axiom, sorry.
-/
import Derived.Test.YtncndkkoghjajaaGreatDoorRows
import GoSem.ClaimSeven
namespace Go.Proofs.YtncndkkoghjajaaGreatDoor
namespace Rows

/-- THE TIED CARD OF 'virgatelaw27.ByhandNil'. -/
def byhandNilCard : Claim7 := { stood := { row := byhandNilRow, standIns := [], harness := (true, "32ce75bee1ffeed77fc788d8a96a9a0fc2e6c8f616b971b3f5ab5ae75bf993d1"), looks := false }, kinds := [], alts := [], laidByText := true, laidKinds := [.data, .pinned], laidTests := true, laidLooks := .later }
def ByhandNilCardSaid : Prop := Claim7.holds Tryz.pinned (.plain (OpenSpec.ofChange byhandNilSpec)) byhandNilCard

/-- THE SECOND FORM's CARD OF 'virgatelaw27.ByhandNil'. -/
def byhandNilUptoCard : Claim7 := { stood := { row := byhandNilUptoRow, standIns := [], harness := (true, "32ce75bee1ffeed77fc788d8a96a9a0fc2e6c8f616b971b3f5ab5ae75bf993d1"), looks := false }, kinds := [], alts := [], laidByText := true, laidKinds := [.data, .pinned], laidTests := true, laidLooks := .later }
def ByhandNilUptoCardSaid : Prop := Claim7.holds Tryz.pinned (.plain (OpenSpec.upto byhandNilSpec)) byhandNilUptoCard
end Rows
end Go.Proofs.YtncndkkoghjajaaGreatDoor
