/-
  DERIVED. GIVEN WITH THE SEED: THE CARDS: each row of YtejjbkocmbfpeaaGreatDoorRows.lean that lists a variable, with what it lists TIED to the program's text (the seventh form; the later family's looks); each row that meets fmt, with fmt's text TOLD by the authors' own Lean function (tested against real Go, not proved from fmt's source: count such statements apart). THE CARD IS WHAT COUNTS. Prove the row's statement (the work); the ties are given (YtejjbkocmbfpeaaGreatDoorTie.lean); close each card by the builder's one call (the guide's Derived/Test/ToyasCard.lean, 'card_holds'). Laid BY PROGRAM, IN A SANDBOX (cutbox-door.mjs). By AI agents, Wed Nov 11 2026. No macro, syntax, notation, axiom, sorry.
-/
import Derived.Test.YtejjbkocmbfpeaaGreatDoorRows
import GoSem.ClaimSeven
namespace Go.Proofs.YtejjbkocmbfpeaaGreatDoor
namespace Rows

/-- THE TIED CARD OF 'virgatelaw33.AuditReports'. -/
def auditReportsCard : Claim7 := { stood := { row := auditReportsRow, standIns := [], harness := (true, "2b1fe23f9e0778dfb03a49b64935c89bf2077019900a4bffe808eac891118db6"), looks := false }, kinds := [], alts := [], laidByText := true, laidKinds := [.data, .pinned], laidTests := true, laidLooks := .later }
def AuditReportsCardSaid : Prop := Claim7.holds Tryz.pinned (.plain (OpenSpec.ofChange auditReportsSpec)) auditReportsCard

/-- THE SECOND FORM's CARD OF 'virgatelaw33.AuditReports'. -/
def auditReportsUptoCard : Claim7 := { stood := { row := auditReportsUptoRow, standIns := [], harness := (true, "2b1fe23f9e0778dfb03a49b64935c89bf2077019900a4bffe808eac891118db6"), looks := false }, kinds := [], alts := [], laidByText := true, laidKinds := [.data, .pinned], laidTests := true, laidLooks := .later }
def AuditReportsUptoCardSaid : Prop := Claim7.holds Tryz.pinned (.plain (OpenSpec.upto auditReportsSpec)) auditReportsUptoCard
end Rows
end Go.Proofs.YtejjbkocmbfpeaaGreatDoor
