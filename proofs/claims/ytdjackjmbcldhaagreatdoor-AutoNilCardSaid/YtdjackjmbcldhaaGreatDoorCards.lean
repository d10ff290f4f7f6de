/-
  DERIVED. GIVEN WITH THE SEED: THE CARDS: each row of YtdjackjmbcldhaaGreatDoorRows.lean that lists a variable, with what it lists TIED to the program's text (the seventh form; the later family's looks); each row that meets fmt, with fmt's text TOLD by the authors' own Lean function (tested against real Go, not proved from fmt's source: count such statements apart). THE CARD IS WHAT COUNTS. Prove the row's statement (the work); the ties are given (YtdjackjmbcldhaaGreatDoorTie.lean); close each card by the builder's one call (the guide's Derived/Test/ToyasCard.lean, 'card_holds'). Laid BY PROGRAM, IN A SANDBOX (cutbox-door.mjs). By AI agents, Wed Nov 11 2026. No macro, syntax, notation, axiom, sorry.
-/
import Derived.Test.YtdjackjmbcldhaaGreatDoorRows
import GoSem.ClaimSeven
namespace Go.Proofs.YtdjackjmbcldhaaGreatDoor
namespace Rows

/-- THE TIED CARD OF 'virgatelaw24.AutoNil'. -/
def autoNilCard : Claim7 := { stood := { row := autoNilRow, standIns := [], harness := (true, "5c9c1fcb804943063871ce1fe4ec357ca68a79b44ca6cd4586e09bc7a8136a1e"), looks := false }, kinds := [], alts := [], laidByText := true, laidKinds := [.data, .pinned], laidTests := true, laidLooks := .later }
def AutoNilCardSaid : Prop := Claim7.holds Tryz.pinned (.plain (OpenSpec.ofChange autoNilSpec)) autoNilCard

/-- THE SECOND FORM's CARD OF 'virgatelaw24.AutoNil'. -/
def autoNilUptoCard : Claim7 := { stood := { row := autoNilUptoRow, standIns := [], harness := (true, "5c9c1fcb804943063871ce1fe4ec357ca68a79b44ca6cd4586e09bc7a8136a1e"), looks := false }, kinds := [], alts := [], laidByText := true, laidKinds := [.data, .pinned], laidTests := true, laidLooks := .later }
def AutoNilUptoCardSaid : Prop := Claim7.holds Tryz.pinned (.plain (OpenSpec.upto autoNilSpec)) autoNilUptoCard
end Rows
end Go.Proofs.YtdjackjmbcldhaaGreatDoor
