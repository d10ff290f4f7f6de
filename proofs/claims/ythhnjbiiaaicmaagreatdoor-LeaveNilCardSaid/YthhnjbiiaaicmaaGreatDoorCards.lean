/-
  DERIVED. GIVEN WITH THE SEED: THE CARDS: each row of YthhnjbiiaaicmaaGreatDoorRows.lean that lists a variable, with what it lists TIED to the program's text (the seventh form; the later family's looks); each row that meets fmt, with fmt's text TOLD by the authors' own Lean function (tested against real Go, not proved from fmt's source: count such statements apart). THE CARD IS WHAT COUNTS. Prove the row's statement (the work); the ties are given (YthhnjbiiaaicmaaGreatDoorTie.lean); close each card by the builder's one call (the guide's Derived/Test/ToyasCard.lean, 'card_holds'). Laid BY PROGRAM, IN A SANDBOX (cutbox-door.mjs). By AI agents, Wed Nov 11 2026. No macro, syntax, notation, axiom, sorry.
-/
import Derived.Test.YthhnjbiiaaicmaaGreatDoorRows
import GoSem.ClaimSeven
namespace Go.Proofs.YthhnjbiiaaicmaaGreatDoor
namespace Rows

/-- THE TIED CARD OF 'virgatelaw20.LeaveEnds'. -/
def leaveEndsCard : Claim7 := { stood := { row := leaveEndsRow, standIns := [], harness := (true, "bbd76a6121f8b2c1636f237420b9ef63c8277ba72ac558932e55d11334384283"), looks := false }, kinds := [], alts := [], laidByText := true, laidKinds := [.data, .pinned], laidTests := true, laidLooks := .later }
def LeaveEndsCardSaid : Prop := Claim7.holds Tryz.pinned (.plain (OpenSpec.ofChange leaveEndsSpec)) leaveEndsCard

/-- THE TIED CARD OF 'virgatelaw20.LeaveNil'. -/
def leaveNilCard : Claim7 := { stood := { row := leaveNilRow, standIns := [], harness := (true, "bbd76a6121f8b2c1636f237420b9ef63c8277ba72ac558932e55d11334384283"), looks := false }, kinds := [], alts := [], laidByText := true, laidKinds := [.data, .pinned], laidTests := true, laidLooks := .later }
def LeaveNilCardSaid : Prop := Claim7.holds Tryz.pinned (.plain (OpenSpec.ofChange leaveNilSpec)) leaveNilCard

/-- THE TIED CARD OF 'virgatelaw20.LeaveAlone'. -/
def leaveAloneCard : Claim7 := { stood := { row := leaveAloneRow, standIns := [], harness := (true, "bbd76a6121f8b2c1636f237420b9ef63c8277ba72ac558932e55d11334384283"), looks := false }, kinds := [], alts := [], laidByText := true, laidKinds := [.data, .pinned], laidTests := true, laidLooks := .later }
def LeaveAloneCardSaid : Prop := Claim7.holds Tryz.pinned (.plain (OpenSpec.ofChange leaveAloneSpec)) leaveAloneCard

/-- THE TIED CARD OF 'virgatelaw20.LeaveAmong'. -/
def leaveAmongCard : Claim7 := { stood := { row := leaveAmongRow, standIns := [], harness := (true, "bbd76a6121f8b2c1636f237420b9ef63c8277ba72ac558932e55d11334384283"), looks := false }, kinds := [], alts := [], laidByText := true, laidKinds := [.data, .pinned], laidTests := true, laidLooks := .later }
def LeaveAmongCardSaid : Prop := Claim7.holds Tryz.pinned (.plain (OpenSpec.ofChange leaveAmongSpec)) leaveAmongCard

/-- THE SECOND FORM's CARD OF 'virgatelaw20.LeaveEnds'. -/
def leaveEndsUptoCard : Claim7 := { stood := { row := leaveEndsUptoRow, standIns := [], harness := (true, "bbd76a6121f8b2c1636f237420b9ef63c8277ba72ac558932e55d11334384283"), looks := false }, kinds := [], alts := [], laidByText := true, laidKinds := [.data, .pinned], laidTests := true, laidLooks := .later }
def LeaveEndsUptoCardSaid : Prop := Claim7.holds Tryz.pinned (.plain (OpenSpec.upto leaveEndsSpec)) leaveEndsUptoCard

/-- THE SECOND FORM's CARD OF 'virgatelaw20.LeaveNil'. -/
def leaveNilUptoCard : Claim7 := { stood := { row := leaveNilUptoRow, standIns := [], harness := (true, "bbd76a6121f8b2c1636f237420b9ef63c8277ba72ac558932e55d11334384283"), looks := false }, kinds := [], alts := [], laidByText := true, laidKinds := [.data, .pinned], laidTests := true, laidLooks := .later }
def LeaveNilUptoCardSaid : Prop := Claim7.holds Tryz.pinned (.plain (OpenSpec.upto leaveNilSpec)) leaveNilUptoCard

/-- THE SECOND FORM's CARD OF 'virgatelaw20.LeaveAlone'. -/
def leaveAloneUptoCard : Claim7 := { stood := { row := leaveAloneUptoRow, standIns := [], harness := (true, "bbd76a6121f8b2c1636f237420b9ef63c8277ba72ac558932e55d11334384283"), looks := false }, kinds := [], alts := [], laidByText := true, laidKinds := [.data, .pinned], laidTests := true, laidLooks := .later }
def LeaveAloneUptoCardSaid : Prop := Claim7.holds Tryz.pinned (.plain (OpenSpec.upto leaveAloneSpec)) leaveAloneUptoCard

/-- THE SECOND FORM's CARD OF 'virgatelaw20.LeaveAmong'. -/
def leaveAmongUptoCard : Claim7 := { stood := { row := leaveAmongUptoRow, standIns := [], harness := (true, "bbd76a6121f8b2c1636f237420b9ef63c8277ba72ac558932e55d11334384283"), looks := false }, kinds := [], alts := [], laidByText := true, laidKinds := [.data, .pinned], laidTests := true, laidLooks := .later }
def LeaveAmongUptoCardSaid : Prop := Claim7.holds Tryz.pinned (.plain (OpenSpec.upto leaveAmongSpec)) leaveAmongUptoCard
end Rows
end Go.Proofs.YthhnjbiiaaicmaaGreatDoor
