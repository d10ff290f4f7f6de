/-
  NARROWER THAN 'FOR EVERY INPUT', by the rows' own cells (each row's printed sentence says how): LeaveEnds: laid · LeaveNil: laid · LeaveAlone: laid · LeaveAmong: laid.
  DERIVED. THE GIVEN ROWS OF THIS SEAT. 4 by the template 'for every input the law returns true; each argument reads behind the call as it read before'; 0 by the template 'total and deterministic' (their statements: YthhnjbiiaaicmaaGreatDoorTotals.lean).
  GIVEN WITH THE SEED: the statements are not yours to turn. If you find one false, say at which input.
  Laid BY PROGRAM, IN A SANDBOX (cutbox-rows.mjs): the forced cells as the released guide's own fill.sh prints them over the translation 42d1f8e9f22408a2… (all of the seat's roots in one cut). By AI agents, Wed Nov 11 2026. No macro, syntax, notation, axiom, sorry.
-/
import Derived.Test.YthhnjbiiaaicmaaGreatDoorChecked
import GoSem.PinnedTables
import GoSem.Claim
import GoSem.ClaimJoined
import GoSem.ClaimMapViews
import Derived.JoinedTies
import Derived.KernelRfl
namespace Go.Proofs.YthhnjbiiaaicmaaGreatDoor
/- THE CELL 'sum', in the pinned program and in every row, IS THE sha256 OF THE DUMP (.gsa) THAT YthhnjbiiaaicmaaGreatDoorProg.lean LOADS. Nothing in Lean hashes anything: it is a label: what it is worth is what the hold of that sum in a sandbox is worth. -/
noncomputable def Tryz.pinned : Pinned := { name := "ythhnjbiiaaicmaagreatdoor", sum := "42d1f8e9f22408a24bc557720dca6c03c6972b8c62d179434984ef48a8d53bd6", checked := Tryz.checked }
namespace Rows
def none {H : Type} : Left H := { results := [], args := [] }

/- WHAT THE LISTED PACKAGE-LEVEL VARIABLES READ AS WHEN THE CALL BEGINS. Each datum BY PROGRAM (the guide's laid-datum.mjs) off the statement by which the dump's own 'gosem.cut.vars' lays the variable. In a bare row this is a premise. The card (YthhnjbiiaaicmaaGreatDoorCards.lean) ties it to the program's text. -/
def laid_unicode_utf8_acceptRanges {H : Type} : DataW H := .agg [.agg [.lit (.int .u8 128), .lit (.int .u8 191)], .agg [.lit (.int .u8 160), .lit (.int .u8 191)], .agg [.lit (.int .u8 128), .lit (.int .u8 159)], .agg [.lit (.int .u8 144), .lit (.int .u8 191)], .agg [.lit (.int .u8 128), .lit (.int .u8 143)], .agg [.lit (.int .u8 0), .lit (.int .u8 0)], .agg [.lit (.int .u8 0), .lit (.int .u8 0)], .agg [.lit (.int .u8 0), .lit (.int .u8 0)], .agg [.lit (.int .u8 0), .lit (.int .u8 0)], .agg [.lit (.int .u8 0), .lit (.int .u8 0)], .agg [.lit (.int .u8 0), .lit (.int .u8 0)], .agg [.lit (.int .u8 0), .lit (.int .u8 0)], .agg [.lit (.int .u8 0), .lit (.int .u8 0)], .agg [.lit (.int .u8 0), .lit (.int .u8 0)], .agg [.lit (.int .u8 0), .lit (.int .u8 0)], .agg [.lit (.int .u8 0), .lit (.int .u8 0)]]
/-- One of Go's own tables, pinned by name: the form's constant. -/
def laid_unicode_utf8_first : DataW Unit := Go.Pinned.utf8First

/-- 'virgatelaw20.LeaveEnds': WHATEVER THE INPUT: true; the input reads as it did. -/
def leaveEndsSpec : ChangeSpec := { name := "leaveEnds", fn := fun _ => fun
  | [d1, d2, d3] => { results := [.lit (.bool true)], args := [d1, d2, d3] }
  | _ => none }
def leaveEndsRow : OpenClaim := { program := "ythhnjbiiaaicmaagreatdoor", sum := "42d1f8e9f22408a24bc557720dca6c03c6972b8c62d179434984ef48a8d53bd6", func := "virgate/virgatelaw20.LeaveEnds", spec := "leaveEnds", inPlace := ["internal/abi.NoEscape", "internal/bytealg.MakeNoZero", "internal/bytealg.CountString", "internal/bytealg.IndexByteString", "internal/bytealg.IndexString"], unfollowed := true, recurses := true, named := ["internal/bytealg.MaxLen", "unicode/utf8.first", "unicode/utf8.acceptRanges"], plainKeys := false, apart := false, laid := [("unicode/utf8.acceptRanges", laid_unicode_utf8_acceptRanges), ("unicode/utf8.first", laid_unicode_utf8_first)] }
def LeaveEndsSaid : Prop := leaveEndsRow.holds Tryz.pinned (OpenSpec.ofChange leaveEndsSpec)

/-- ITS FALSE NEIGHBOUR: 'it returns false'. Refute it at one input. -/
def leaveEndsWrong : ChangeSpec := { name := "leaveEnds", fn := fun _ => fun
  | [d1, d2, d3] => { results := [.lit (.bool false)], args := [d1, d2, d3] }
  | _ => none }
def LeaveEndsWrongFalsely : Prop := leaveEndsRow.holds Tryz.pinned (OpenSpec.ofChange leaveEndsWrong)

/-- 'virgatelaw20.LeaveNil': WHATEVER THE INPUT: true; the input reads as it did. -/
def leaveNilSpec : ChangeSpec := { name := "leaveNil", fn := fun _ => fun
  | [d] => { results := [.lit (.bool true)], args := [d] }
  | _ => none }
def leaveNilRow : OpenClaim := { program := "ythhnjbiiaaicmaagreatdoor", sum := "42d1f8e9f22408a24bc557720dca6c03c6972b8c62d179434984ef48a8d53bd6", func := "virgate/virgatelaw20.LeaveNil", spec := "leaveNil", inPlace := ["internal/abi.NoEscape", "internal/bytealg.MakeNoZero", "internal/bytealg.CountString", "internal/bytealg.IndexByteString", "internal/bytealg.IndexString"], unfollowed := true, recurses := true, named := ["internal/bytealg.MaxLen", "unicode/utf8.first", "unicode/utf8.acceptRanges"], plainKeys := false, apart := false, laid := [("unicode/utf8.acceptRanges", laid_unicode_utf8_acceptRanges), ("unicode/utf8.first", laid_unicode_utf8_first)] }
def LeaveNilSaid : Prop := leaveNilRow.holds Tryz.pinned (OpenSpec.ofChange leaveNilSpec)

/-- ITS FALSE NEIGHBOUR: 'it returns false'. Refute it at one input. -/
def leaveNilWrong : ChangeSpec := { name := "leaveNil", fn := fun _ => fun
  | [d] => { results := [.lit (.bool false)], args := [d] }
  | _ => none }
def LeaveNilWrongFalsely : Prop := leaveNilRow.holds Tryz.pinned (OpenSpec.ofChange leaveNilWrong)

/-- 'virgatelaw20.LeaveAlone': WHATEVER THE INPUT: true; the input reads as it did. -/
def leaveAloneSpec : ChangeSpec := { name := "leaveAlone", fn := fun _ => fun
  | [d1, d2, d3] => { results := [.lit (.bool true)], args := [d1, d2, d3] }
  | _ => none }
def leaveAloneRow : OpenClaim := { program := "ythhnjbiiaaicmaagreatdoor", sum := "42d1f8e9f22408a24bc557720dca6c03c6972b8c62d179434984ef48a8d53bd6", func := "virgate/virgatelaw20.LeaveAlone", spec := "leaveAlone", inPlace := ["internal/abi.NoEscape", "internal/bytealg.MakeNoZero", "internal/bytealg.CountString", "internal/bytealg.IndexByteString", "internal/bytealg.IndexString"], unfollowed := true, recurses := true, named := ["internal/bytealg.MaxLen", "unicode/utf8.first", "unicode/utf8.acceptRanges"], plainKeys := false, apart := false, laid := [("unicode/utf8.acceptRanges", laid_unicode_utf8_acceptRanges), ("unicode/utf8.first", laid_unicode_utf8_first)] }
def LeaveAloneSaid : Prop := leaveAloneRow.holds Tryz.pinned (OpenSpec.ofChange leaveAloneSpec)

/-- ITS FALSE NEIGHBOUR: 'it returns false'. Refute it at one input. -/
def leaveAloneWrong : ChangeSpec := { name := "leaveAlone", fn := fun _ => fun
  | [d1, d2, d3] => { results := [.lit (.bool false)], args := [d1, d2, d3] }
  | _ => none }
def LeaveAloneWrongFalsely : Prop := leaveAloneRow.holds Tryz.pinned (OpenSpec.ofChange leaveAloneWrong)

/-- 'virgatelaw20.LeaveAmong': WHATEVER THE INPUT: true; the input reads as it did. -/
def leaveAmongSpec : ChangeSpec := { name := "leaveAmong", fn := fun _ => fun
  | [d1, d2, d3, d4] => { results := [.lit (.bool true)], args := [d1, d2, d3, d4] }
  | _ => none }
def leaveAmongRow : OpenClaim := { program := "ythhnjbiiaaicmaagreatdoor", sum := "42d1f8e9f22408a24bc557720dca6c03c6972b8c62d179434984ef48a8d53bd6", func := "virgate/virgatelaw20.LeaveAmong", spec := "leaveAmong", inPlace := ["internal/abi.NoEscape", "internal/bytealg.MakeNoZero", "internal/bytealg.CountString", "internal/bytealg.IndexByteString", "internal/bytealg.IndexString"], unfollowed := true, recurses := true, named := ["internal/bytealg.MaxLen", "unicode/utf8.first", "unicode/utf8.acceptRanges"], plainKeys := false, apart := false, laid := [("unicode/utf8.acceptRanges", laid_unicode_utf8_acceptRanges), ("unicode/utf8.first", laid_unicode_utf8_first)] }
def LeaveAmongSaid : Prop := leaveAmongRow.holds Tryz.pinned (OpenSpec.ofChange leaveAmongSpec)

/-- ITS FALSE NEIGHBOUR: 'it returns false'. Refute it at one input. -/
def leaveAmongWrong : ChangeSpec := { name := "leaveAmong", fn := fun _ => fun
  | [d1, d2, d3, d4] => { results := [.lit (.bool false)], args := [d1, d2, d3, d4] }
  | _ => none }
def LeaveAmongWrongFalsely : Prop := leaveAmongRow.holds Tryz.pinned (OpenSpec.ofChange leaveAmongWrong)

/- THE SECOND FORM. 'bulk': how many values and letters a reading holds, each counted each time it is reached (what is shared counts as often as it is met; a slice's spare places count too). A statement '..UptoSaid' is the law's where the arguments, and the package variables that the reading takes, are together of bulk at most 1048576: NARROWER than '..Said'. Prove '..Said' where nothing that the law and all that it calls make is longer than what came in: it says more and counts as full. Else prove '..UptoSaid'. A law counts once. -/
mutual
def uptoBulk {H : Type} : DataW H → Nat
  | .lit (.string bytes) => bytes.length + 1
  | .lit _ => 1
  | .nil => 1
  | .ptr d => uptoBulk d + 1
  | .slice elems spare => uptoBulkAll elems + uptoBulkAll spare + 1
  | .agg parts => uptoBulkAll parts + 1
  | .iface _ d => uptoBulk d + 1
  | .map entries => uptoBulkEntries entries + 1
  | .held _ => 1
def uptoBulkAll {H : Type} : List (DataW H) → Nat
  | [] => 0
  | d :: r => uptoBulk d + uptoBulkAll r
def uptoBulkEntries {H : Type} : List (Lit × DataW H) → Nat
  | [] => 0
  | x :: r => uptoBulkEntry x + uptoBulkEntries r
def uptoBulkEntry {H : Type} : Lit × DataW H → Nat
  | (.string bytes, d) => bytes.length + uptoBulk d + 1
  | (_, d) => uptoBulk d + 1
 end
def uptoSmall : (H : Type) → List (DataW H) → Bool := fun _ ds => decide (uptoBulkAll ds ≤ 1048576)
def OpenSpec.upto (s : _root_.Go.ChangeSpec) : _root_.Go.OpenSpec := { _root_.Go.OpenSpec.ofChange s with cond := some uptoSmall }

/-- 'virgatelaw20.LeaveEnds', WHERE WHAT IT READS IS OF BULK AT MOST 1048576: true; the input reads as it did. -/
def leaveEndsUptoRow : OpenClaim := { program := "ythhnjbiiaaicmaagreatdoor", sum := "42d1f8e9f22408a24bc557720dca6c03c6972b8c62d179434984ef48a8d53bd6", func := "virgate/virgatelaw20.LeaveEnds", spec := "leaveEnds", inPlace := ["internal/abi.NoEscape", "internal/bytealg.MakeNoZero", "internal/bytealg.CountString", "internal/bytealg.IndexByteString", "internal/bytealg.IndexString"], unfollowed := true, recurses := true, named := ["internal/bytealg.MaxLen", "unicode/utf8.first", "unicode/utf8.acceptRanges"], plainKeys := false, apart := false, laid := [("unicode/utf8.acceptRanges", laid_unicode_utf8_acceptRanges), ("unicode/utf8.first", laid_unicode_utf8_first)], narrowed := true }
def LeaveEndsUptoSaid : Prop := leaveEndsUptoRow.holds Tryz.pinned (OpenSpec.upto leaveEndsSpec)

/-- 'virgatelaw20.LeaveNil', WHERE WHAT IT READS IS OF BULK AT MOST 1048576: true; the input reads as it did. -/
def leaveNilUptoRow : OpenClaim := { program := "ythhnjbiiaaicmaagreatdoor", sum := "42d1f8e9f22408a24bc557720dca6c03c6972b8c62d179434984ef48a8d53bd6", func := "virgate/virgatelaw20.LeaveNil", spec := "leaveNil", inPlace := ["internal/abi.NoEscape", "internal/bytealg.MakeNoZero", "internal/bytealg.CountString", "internal/bytealg.IndexByteString", "internal/bytealg.IndexString"], unfollowed := true, recurses := true, named := ["internal/bytealg.MaxLen", "unicode/utf8.first", "unicode/utf8.acceptRanges"], plainKeys := false, apart := false, laid := [("unicode/utf8.acceptRanges", laid_unicode_utf8_acceptRanges), ("unicode/utf8.first", laid_unicode_utf8_first)], narrowed := true }
def LeaveNilUptoSaid : Prop := leaveNilUptoRow.holds Tryz.pinned (OpenSpec.upto leaveNilSpec)

/-- 'virgatelaw20.LeaveAlone', WHERE WHAT IT READS IS OF BULK AT MOST 1048576: true; the input reads as it did. -/
def leaveAloneUptoRow : OpenClaim := { program := "ythhnjbiiaaicmaagreatdoor", sum := "42d1f8e9f22408a24bc557720dca6c03c6972b8c62d179434984ef48a8d53bd6", func := "virgate/virgatelaw20.LeaveAlone", spec := "leaveAlone", inPlace := ["internal/abi.NoEscape", "internal/bytealg.MakeNoZero", "internal/bytealg.CountString", "internal/bytealg.IndexByteString", "internal/bytealg.IndexString"], unfollowed := true, recurses := true, named := ["internal/bytealg.MaxLen", "unicode/utf8.first", "unicode/utf8.acceptRanges"], plainKeys := false, apart := false, laid := [("unicode/utf8.acceptRanges", laid_unicode_utf8_acceptRanges), ("unicode/utf8.first", laid_unicode_utf8_first)], narrowed := true }
def LeaveAloneUptoSaid : Prop := leaveAloneUptoRow.holds Tryz.pinned (OpenSpec.upto leaveAloneSpec)

/-- 'virgatelaw20.LeaveAmong', WHERE WHAT IT READS IS OF BULK AT MOST 1048576: true; the input reads as it did. -/
def leaveAmongUptoRow : OpenClaim := { program := "ythhnjbiiaaicmaagreatdoor", sum := "42d1f8e9f22408a24bc557720dca6c03c6972b8c62d179434984ef48a8d53bd6", func := "virgate/virgatelaw20.LeaveAmong", spec := "leaveAmong", inPlace := ["internal/abi.NoEscape", "internal/bytealg.MakeNoZero", "internal/bytealg.CountString", "internal/bytealg.IndexByteString", "internal/bytealg.IndexString"], unfollowed := true, recurses := true, named := ["internal/bytealg.MaxLen", "unicode/utf8.first", "unicode/utf8.acceptRanges"], plainKeys := false, apart := false, laid := [("unicode/utf8.acceptRanges", laid_unicode_utf8_acceptRanges), ("unicode/utf8.first", laid_unicode_utf8_first)], narrowed := true }
def LeaveAmongUptoSaid : Prop := leaveAmongUptoRow.holds Tryz.pinned (OpenSpec.upto leaveAmongSpec)

end Rows
end Go.Proofs.YthhnjbiiaaicmaaGreatDoor
