/- LeaveNil's run: whatever the text, one path. -/
import Derived.Test.YthhnjbiiaaicmaaGreatDoorEnv
import Derived.Test.YthhnjbiiaaicmaaGreatDoorVe
namespace Go.Proofs.YthhnjbiiaaicmaaGreatDoor
open Go Go.VAbs Go.RowKit
def nilSym : Nat → Bool
  | 4 | 8 | 28 | 49 | 80 | 105 | 136 => true
  | _ => false
def nilOrc : List Bool := [true, true, true, true, true, true, true, false, true, true, false, false, false, false, false, false, false, false, false, false, false, false, false, false, false, true, true, true, true, true, true, true, true, true, true, true, true, false, true, true, false, false, false, false, false, false, false, false, true, true, true, true, false, false, false, true, true, true, true, false, false, false, false, true, true, true, true, true, true, true, false, true, true, false, false, false, false, false, false, false, false, true, true, true, true, false, false, false, true, true, true, true, false, false, false, false, true, true, true, true, true, true, true, true, true, true, true, true, true, true, true, true, true, true, true, true, true, true, true, true]
noncomputable def nilRun (m : Int) (s : ByteArray) : Option (Go.Value × AS × OSt) := acallO E1 nilSym noPO 3000 4 [Go.Value.string s] (VAbs.start m) ⟨nilOrc, []⟩
set_option maxRecDepth 1000000 in
theorem nilVal (m : Int) (s : ByteArray) : VAbs.valOf (nilRun m s) = some (Go.Value.bool true) := by kernel_rfl
end Go.Proofs.YthhnjbiiaaicmaaGreatDoor
