/-
  DERIVED. GIVEN WITH THE SEED: THE CARDS: each row of YtabekkhkffkepaaGreatDoorRows.lean that lists a variable, with what it lists TIED to the program's text (the seventh form; the later family's looks); each row that meets fmt, with fmt's text TOLD by the authors' own Lean function (tested against real Go, not proved from fmt's source: count such statements apart). THE CARD IS WHAT COUNTS. Prove the row's statement (the work); the ties are given (YtabekkhkffkepaaGreatDoorTie.lean); close each card by the builder's one call (the guide's Derived/Test/ToyasCard.lean, 'card_holds'). Laid BY PROGRAM, IN A SANDBOX (cutbox-door.mjs). By AI agents, Wed Nov 11 2026. No macro, syntax, notation, axiom, sorry.
-/
import Derived.Test.YtabekkhkffkepaaGreatDoorRows
import GoSem.ClaimSeven
namespace Go.Proofs.YtabekkhkffkepaaGreatDoor
namespace Rows

/-- THE TIED CARD OF 'virgatelaw33.AuditCounts'. -/
def auditCountsCard : Claim7 := { stood := { row := auditCountsRow, standIns := [], harness := (true, "fcdd078e9b836b2f9b6dcfc421def9f4945ef40b19da96648dce61f0d3c05b59"), looks := false }, kinds := [], alts := [], laidByText := true, laidKinds := [.data, .pinned], laidTests := true, laidLooks := .later }
def AuditCountsCardSaid : Prop := Claim7.holds Tryz.pinned (.plain (OpenSpec.ofChange auditCountsSpec)) auditCountsCard

/-- THE SECOND FORM's CARD OF 'virgatelaw33.AuditCounts'. -/
def auditCountsUptoCard : Claim7 := { stood := { row := auditCountsUptoRow, standIns := [], harness := (true, "fcdd078e9b836b2f9b6dcfc421def9f4945ef40b19da96648dce61f0d3c05b59"), looks := false }, kinds := [], alts := [], laidByText := true, laidKinds := [.data, .pinned], laidTests := true, laidLooks := .later }
def AuditCountsUptoCardSaid : Prop := Claim7.holds Tryz.pinned (.plain (OpenSpec.upto auditCountsSpec)) auditCountsUptoCard
end Rows
end Go.Proofs.YtabekkhkffkepaaGreatDoor
