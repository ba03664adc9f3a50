/-
  NARROWER THAN 'FOR EVERY INPUT', by the rows' own cells (each row's printed sentence says how): FnTellApart: laid · FnSentenceFor: laid · FnSeparates: laid · FnFewVariables: laid · FnAgree: laid.
  DERIVED. THE GIVEN ROWS OF THIS SEAT. 5 by the template 'for every input the law returns true; each argument reads behind the call as it read before'; 0 by the template 'total and deterministic' (their statements: YtefiibghfgfdnaaGreatDoorTotals.lean).
  GIVEN WITH THE SEED: the statements are not yours to turn. If you find one false, say at which input.
  Laid BY PROGRAM, IN A SANDBOX (cutbox-rows.mjs): the forced cells as the released guide's own fill.sh prints them over the translation dc103bb4b537af77… (all of the seat's roots in one cut). By AI agents, Wed Nov 11 2026. No macro, syntax, notation, axiom, sorry.
-/
import Derived.Test.YtefiibghfgfdnaaGreatDoorChecked
import GoSem.PinnedTables
import GoSem.Claim
import GoSem.ClaimJoined
import GoSem.ClaimMapViews
import Derived.JoinedTies
import Derived.KernelRfl
namespace Go.Proofs.YtefiibghfgfdnaaGreatDoor
/- THE CELL 'sum', in the pinned program and in every row, IS THE sha256 OF THE DUMP (.gsa) THAT YtefiibghfgfdnaaGreatDoorProg.lean LOADS. Nothing in Lean hashes anything: it is a label: what it is worth is what the hold of that sum in a sandbox is worth. -/
noncomputable def Tryz.pinned : Pinned := { name := "ytefiibghfgfdnaagreatdoor", sum := "dc103bb4b537af77ecc65331ab5768c040805893fb4a10de88d29abcd8f2900b", checked := Tryz.checked }
namespace Rows
def none {H : Type} : Left H := { results := [], args := [] }

/- WHAT THE LISTED PACKAGE-LEVEL VARIABLES READ AS WHEN THE CALL BEGINS. Each datum BY PROGRAM (the guide's laid-datum.mjs) off the statement by which the dump's own 'gosem.cut.vars' lays the variable. In a bare row this is a premise. The card (YtefiibghfgfdnaaGreatDoorCards.lean) ties it to the program's text. -/
def laid_unicode_utf8_acceptRanges {H : Type} : DataW H := .agg [.agg [.lit (.int .u8 128), .lit (.int .u8 191)], .agg [.lit (.int .u8 160), .lit (.int .u8 191)], .agg [.lit (.int .u8 128), .lit (.int .u8 159)], .agg [.lit (.int .u8 144), .lit (.int .u8 191)], .agg [.lit (.int .u8 128), .lit (.int .u8 143)], .agg [.lit (.int .u8 0), .lit (.int .u8 0)], .agg [.lit (.int .u8 0), .lit (.int .u8 0)], .agg [.lit (.int .u8 0), .lit (.int .u8 0)], .agg [.lit (.int .u8 0), .lit (.int .u8 0)], .agg [.lit (.int .u8 0), .lit (.int .u8 0)], .agg [.lit (.int .u8 0), .lit (.int .u8 0)], .agg [.lit (.int .u8 0), .lit (.int .u8 0)], .agg [.lit (.int .u8 0), .lit (.int .u8 0)], .agg [.lit (.int .u8 0), .lit (.int .u8 0)], .agg [.lit (.int .u8 0), .lit (.int .u8 0)], .agg [.lit (.int .u8 0), .lit (.int .u8 0)]]
/-- One of Go's own tables, pinned by name: the form's constant. -/
def laid_unicode_utf8_first : DataW Unit := Go.Pinned.utf8First

/-- 'laws.FnTellApart': WHATEVER THE INPUT: true; the input reads as it did. -/
def fnTellApartSpec : ChangeSpec := { name := "fnTellApart", fn := fun _ => fun
  | [d] => { results := [.lit (.bool true)], args := [d] }
  | _ => none }
def fnTellApartRow : OpenClaim := { program := "ytefiibghfgfdnaagreatdoor", sum := "dc103bb4b537af77ecc65331ab5768c040805893fb4a10de88d29abcd8f2900b", func := "loop.example/gamesonstructures/laws.FnTellApart", spec := "fnTellApart", inPlace := ["internal/bytealg.IndexByteString", "internal/bytealg.IndexString"], unfollowed := true, recurses := true, named := ["unicode/utf8.first", "unicode/utf8.acceptRanges", "internal/bytealg.MaxLen"], apart := false, laid := [("unicode/utf8.acceptRanges", laid_unicode_utf8_acceptRanges), ("unicode/utf8.first", laid_unicode_utf8_first)] }
def FnTellApartSaid : Prop := fnTellApartRow.holds Tryz.pinned (OpenSpec.ofChange fnTellApartSpec)

/-- ITS FALSE NEIGHBOUR: 'it returns false'. Refute it at one input. -/
def fnTellApartWrong : ChangeSpec := { name := "fnTellApart", fn := fun _ => fun
  | [d] => { results := [.lit (.bool false)], args := [d] }
  | _ => none }
def FnTellApartWrongFalsely : Prop := fnTellApartRow.holds Tryz.pinned (OpenSpec.ofChange fnTellApartWrong)

/-- 'laws.FnSentenceFor': WHATEVER THE INPUT: true; the input reads as it did. -/
def fnSentenceForSpec : ChangeSpec := { name := "fnSentenceFor", fn := fun _ => fun
  | [d] => { results := [.lit (.bool true)], args := [d] }
  | _ => none }
def fnSentenceForRow : OpenClaim := { program := "ytefiibghfgfdnaagreatdoor", sum := "dc103bb4b537af77ecc65331ab5768c040805893fb4a10de88d29abcd8f2900b", func := "loop.example/gamesonstructures/laws.FnSentenceFor", spec := "fnSentenceFor", inPlace := ["internal/bytealg.IndexByteString", "internal/bytealg.IndexString"], unfollowed := true, recurses := true, named := ["unicode/utf8.first", "unicode/utf8.acceptRanges", "internal/bytealg.MaxLen"], apart := false, laid := [("unicode/utf8.acceptRanges", laid_unicode_utf8_acceptRanges), ("unicode/utf8.first", laid_unicode_utf8_first)] }
def FnSentenceForSaid : Prop := fnSentenceForRow.holds Tryz.pinned (OpenSpec.ofChange fnSentenceForSpec)

/-- ITS FALSE NEIGHBOUR: 'it returns false'. Refute it at one input. -/
def fnSentenceForWrong : ChangeSpec := { name := "fnSentenceFor", fn := fun _ => fun
  | [d] => { results := [.lit (.bool false)], args := [d] }
  | _ => none }
def FnSentenceForWrongFalsely : Prop := fnSentenceForRow.holds Tryz.pinned (OpenSpec.ofChange fnSentenceForWrong)

/-- 'laws.FnSeparates': WHATEVER THE INPUT: true; the input reads as it did. -/
def fnSeparatesSpec : ChangeSpec := { name := "fnSeparates", fn := fun _ => fun
  | [d] => { results := [.lit (.bool true)], args := [d] }
  | _ => none }
def fnSeparatesRow : OpenClaim := { program := "ytefiibghfgfdnaagreatdoor", sum := "dc103bb4b537af77ecc65331ab5768c040805893fb4a10de88d29abcd8f2900b", func := "loop.example/gamesonstructures/laws.FnSeparates", spec := "fnSeparates", inPlace := ["internal/bytealg.IndexByteString", "internal/bytealg.IndexString"], unfollowed := true, recurses := true, named := ["internal/bytealg.MaxLen", "unicode/utf8.first", "unicode/utf8.acceptRanges"], apart := false, laid := [("unicode/utf8.acceptRanges", laid_unicode_utf8_acceptRanges), ("unicode/utf8.first", laid_unicode_utf8_first)] }
def FnSeparatesSaid : Prop := fnSeparatesRow.holds Tryz.pinned (OpenSpec.ofChange fnSeparatesSpec)

/-- ITS FALSE NEIGHBOUR: 'it returns false'. Refute it at one input. -/
def fnSeparatesWrong : ChangeSpec := { name := "fnSeparates", fn := fun _ => fun
  | [d] => { results := [.lit (.bool false)], args := [d] }
  | _ => none }
def FnSeparatesWrongFalsely : Prop := fnSeparatesRow.holds Tryz.pinned (OpenSpec.ofChange fnSeparatesWrong)

/-- 'laws.FnFewVariables': WHATEVER THE INPUT: true; the input reads as it did. -/
def fnFewVariablesSpec : ChangeSpec := { name := "fnFewVariables", fn := fun _ => fun
  | [d] => { results := [.lit (.bool true)], args := [d] }
  | _ => none }
def fnFewVariablesRow : OpenClaim := { program := "ytefiibghfgfdnaagreatdoor", sum := "dc103bb4b537af77ecc65331ab5768c040805893fb4a10de88d29abcd8f2900b", func := "loop.example/gamesonstructures/laws.FnFewVariables", spec := "fnFewVariables", inPlace := ["internal/bytealg.IndexByteString", "internal/bytealg.IndexString"], unfollowed := true, recurses := true, named := ["internal/bytealg.MaxLen", "unicode/utf8.first", "unicode/utf8.acceptRanges"], apart := false, laid := [("unicode/utf8.acceptRanges", laid_unicode_utf8_acceptRanges), ("unicode/utf8.first", laid_unicode_utf8_first)] }
def FnFewVariablesSaid : Prop := fnFewVariablesRow.holds Tryz.pinned (OpenSpec.ofChange fnFewVariablesSpec)

/-- ITS FALSE NEIGHBOUR: 'it returns false'. Refute it at one input. -/
def fnFewVariablesWrong : ChangeSpec := { name := "fnFewVariables", fn := fun _ => fun
  | [d] => { results := [.lit (.bool false)], args := [d] }
  | _ => none }
def FnFewVariablesWrongFalsely : Prop := fnFewVariablesRow.holds Tryz.pinned (OpenSpec.ofChange fnFewVariablesWrong)

/-- 'laws.FnAgree': WHATEVER THE INPUT: true; the input reads as it did. -/
def fnAgreeSpec : ChangeSpec := { name := "fnAgree", fn := fun _ => fun
  | [d] => { results := [.lit (.bool true)], args := [d] }
  | _ => none }
def fnAgreeRow : OpenClaim := { program := "ytefiibghfgfdnaagreatdoor", sum := "dc103bb4b537af77ecc65331ab5768c040805893fb4a10de88d29abcd8f2900b", func := "loop.example/gamesonstructures/laws.FnAgree", spec := "fnAgree", inPlace := ["internal/bytealg.IndexByteString", "internal/bytealg.IndexString"], unfollowed := true, recurses := true, named := ["unicode/utf8.first", "unicode/utf8.acceptRanges", "internal/bytealg.MaxLen"], apart := false, laid := [("unicode/utf8.acceptRanges", laid_unicode_utf8_acceptRanges), ("unicode/utf8.first", laid_unicode_utf8_first)] }
def FnAgreeSaid : Prop := fnAgreeRow.holds Tryz.pinned (OpenSpec.ofChange fnAgreeSpec)

/-- ITS FALSE NEIGHBOUR: 'it returns false'. Refute it at one input. -/
def fnAgreeWrong : ChangeSpec := { name := "fnAgree", fn := fun _ => fun
  | [d] => { results := [.lit (.bool false)], args := [d] }
  | _ => none }
def FnAgreeWrongFalsely : Prop := fnAgreeRow.holds Tryz.pinned (OpenSpec.ofChange fnAgreeWrong)

/- THE SECOND FORM. 'bulk': how many values and letters a reading holds, each counted each time it is reached (what is shared counts as often as it is met; a slice's spare places count too). A statement '..UptoSaid' is the law's where the arguments, and the package variables that the reading takes, are together of bulk at most 1048576: NARROWER than '..Said'. Prove '..Said' where nothing that the law and all that it calls make is longer than what came in: it says more and counts as full. Else prove '..UptoSaid'. A law counts once. -/
mutual
def uptoBulk {H : Type} : DataW H → Nat
  | .lit (.string bytes) => bytes.length + 1
  | .lit _ => 1
  | .nil => 1
  | .ptr d => uptoBulk d + 1
  | .slice elems spare => uptoBulkAll elems + uptoBulkAll spare + 1
  | .agg parts => uptoBulkAll parts + 1
  | .iface _ d => uptoBulk d + 1
  | .map entries => uptoBulkEntries entries + 1
  | .held _ => 1
def uptoBulkAll {H : Type} : List (DataW H) → Nat
  | [] => 0
  | d :: r => uptoBulk d + uptoBulkAll r
def uptoBulkEntries {H : Type} : List (Lit × DataW H) → Nat
  | [] => 0
  | x :: r => uptoBulkEntry x + uptoBulkEntries r
def uptoBulkEntry {H : Type} : Lit × DataW H → Nat
  | (.string bytes, d) => bytes.length + uptoBulk d + 1
  | (_, d) => uptoBulk d + 1
 end
def uptoSmall : (H : Type) → List (DataW H) → Bool := fun _ ds => decide (uptoBulkAll ds ≤ 1048576)
def OpenSpec.upto (s : _root_.Go.ChangeSpec) : _root_.Go.OpenSpec := { _root_.Go.OpenSpec.ofChange s with cond := some uptoSmall }

/-- 'laws.FnTellApart', WHERE WHAT IT READS IS OF BULK AT MOST 1048576: true; the input reads as it did. -/
def fnTellApartUptoRow : OpenClaim := { program := "ytefiibghfgfdnaagreatdoor", sum := "dc103bb4b537af77ecc65331ab5768c040805893fb4a10de88d29abcd8f2900b", func := "loop.example/gamesonstructures/laws.FnTellApart", spec := "fnTellApart", inPlace := ["internal/bytealg.IndexByteString", "internal/bytealg.IndexString"], unfollowed := true, recurses := true, named := ["unicode/utf8.first", "unicode/utf8.acceptRanges", "internal/bytealg.MaxLen"], apart := false, laid := [("unicode/utf8.acceptRanges", laid_unicode_utf8_acceptRanges), ("unicode/utf8.first", laid_unicode_utf8_first)], narrowed := true }
def FnTellApartUptoSaid : Prop := fnTellApartUptoRow.holds Tryz.pinned (OpenSpec.upto fnTellApartSpec)

/-- 'laws.FnSentenceFor', WHERE WHAT IT READS IS OF BULK AT MOST 1048576: true; the input reads as it did. -/
def fnSentenceForUptoRow : OpenClaim := { program := "ytefiibghfgfdnaagreatdoor", sum := "dc103bb4b537af77ecc65331ab5768c040805893fb4a10de88d29abcd8f2900b", func := "loop.example/gamesonstructures/laws.FnSentenceFor", spec := "fnSentenceFor", inPlace := ["internal/bytealg.IndexByteString", "internal/bytealg.IndexString"], unfollowed := true, recurses := true, named := ["unicode/utf8.first", "unicode/utf8.acceptRanges", "internal/bytealg.MaxLen"], apart := false, laid := [("unicode/utf8.acceptRanges", laid_unicode_utf8_acceptRanges), ("unicode/utf8.first", laid_unicode_utf8_first)], narrowed := true }
def FnSentenceForUptoSaid : Prop := fnSentenceForUptoRow.holds Tryz.pinned (OpenSpec.upto fnSentenceForSpec)

/-- 'laws.FnSeparates', WHERE WHAT IT READS IS OF BULK AT MOST 1048576: true; the input reads as it did. -/
def fnSeparatesUptoRow : OpenClaim := { program := "ytefiibghfgfdnaagreatdoor", sum := "dc103bb4b537af77ecc65331ab5768c040805893fb4a10de88d29abcd8f2900b", func := "loop.example/gamesonstructures/laws.FnSeparates", spec := "fnSeparates", inPlace := ["internal/bytealg.IndexByteString", "internal/bytealg.IndexString"], unfollowed := true, recurses := true, named := ["internal/bytealg.MaxLen", "unicode/utf8.first", "unicode/utf8.acceptRanges"], apart := false, laid := [("unicode/utf8.acceptRanges", laid_unicode_utf8_acceptRanges), ("unicode/utf8.first", laid_unicode_utf8_first)], narrowed := true }
def FnSeparatesUptoSaid : Prop := fnSeparatesUptoRow.holds Tryz.pinned (OpenSpec.upto fnSeparatesSpec)

/-- 'laws.FnFewVariables', WHERE WHAT IT READS IS OF BULK AT MOST 1048576: true; the input reads as it did. -/
def fnFewVariablesUptoRow : OpenClaim := { program := "ytefiibghfgfdnaagreatdoor", sum := "dc103bb4b537af77ecc65331ab5768c040805893fb4a10de88d29abcd8f2900b", func := "loop.example/gamesonstructures/laws.FnFewVariables", spec := "fnFewVariables", inPlace := ["internal/bytealg.IndexByteString", "internal/bytealg.IndexString"], unfollowed := true, recurses := true, named := ["internal/bytealg.MaxLen", "unicode/utf8.first", "unicode/utf8.acceptRanges"], apart := false, laid := [("unicode/utf8.acceptRanges", laid_unicode_utf8_acceptRanges), ("unicode/utf8.first", laid_unicode_utf8_first)], narrowed := true }
def FnFewVariablesUptoSaid : Prop := fnFewVariablesUptoRow.holds Tryz.pinned (OpenSpec.upto fnFewVariablesSpec)

/-- 'laws.FnAgree', WHERE WHAT IT READS IS OF BULK AT MOST 1048576: true; the input reads as it did. -/
def fnAgreeUptoRow : OpenClaim := { program := "ytefiibghfgfdnaagreatdoor", sum := "dc103bb4b537af77ecc65331ab5768c040805893fb4a10de88d29abcd8f2900b", func := "loop.example/gamesonstructures/laws.FnAgree", spec := "fnAgree", inPlace := ["internal/bytealg.IndexByteString", "internal/bytealg.IndexString"], unfollowed := true, recurses := true, named := ["unicode/utf8.first", "unicode/utf8.acceptRanges", "internal/bytealg.MaxLen"], apart := false, laid := [("unicode/utf8.acceptRanges", laid_unicode_utf8_acceptRanges), ("unicode/utf8.first", laid_unicode_utf8_first)], narrowed := true }
def FnAgreeUptoSaid : Prop := fnAgreeUptoRow.holds Tryz.pinned (OpenSpec.upto fnAgreeSpec)

end Rows
end Go.Proofs.YtefiibghfgfdnaaGreatDoor
