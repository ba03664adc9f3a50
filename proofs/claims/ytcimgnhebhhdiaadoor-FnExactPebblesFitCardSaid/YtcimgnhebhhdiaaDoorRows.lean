/-
  NARROWER THAN 'FOR EVERY INPUT', by the rows' own cells (each row's printed sentence says how): FnExactSpreadOf: laid · FnExactLongestPartial: laid · FnExactIsPartial: laid · FnExactAtomsOf: laid · FnExactAnswersTo: laid · FnExactPebblesFit: laid · FnExactCountKinds: laid · FnExactFactsFormula: laid · FnExactSameRank: laid · FnExactSecondWins: laid · FnExactWonRounds: laid · FnExactCountClasses: laid.
  DERIVED. THE GIVEN ROWS OF THIS SEAT. 12 by the template 'for every input the law returns true; each argument reads behind the call as it read before'; 0 by the template 'total and deterministic' (their statements: YtcimgnhebhhdiaaDoorTotals.lean).
  GIVEN WITH THE SEED: the statements are not yours to turn. If you find one false, say at which input.
  Laid BY PROGRAM, IN A SANDBOX (cutbox-rows.mjs): the forced cells as the released guide's own fill.sh prints them over the translation 0359f87f894a4402… (all of the seat's roots in one cut). By AI agents, Wed Nov 11 2026. No macro, syntax, notation, axiom, sorry.
-/
import Derived.Test.YtcimgnhebhhdiaaDoorChecked
import GoSem.PinnedTables
import GoSem.Claim
import GoSem.ClaimJoined
import GoSem.ClaimMapViews
import Derived.JoinedTies
import Derived.KernelRfl
namespace Go.Proofs.YtcimgnhebhhdiaaDoor
/- THE CELL 'sum', in the pinned program and in every row, IS THE sha256 OF THE DUMP (.gsa) THAT YtcimgnhebhhdiaaDoorProg.lean LOADS. Nothing in Lean hashes anything: it is a label: what it is worth is what the hold of that sum in a sandbox is worth. -/
noncomputable def Tryd.pinned : Pinned := { name := "ytcimgnhebhhdiaadoor", sum := "0359f87f894a4402cce459f0a5708e5ffeb163d695d75ac1d70accba5b74bbde", checked := Tryd.checked }
namespace Rows
def none {H : Type} : Left H := { results := [], args := [] }

/- WHAT THE LISTED PACKAGE-LEVEL VARIABLES READ AS WHEN THE CALL BEGINS. Each datum BY PROGRAM (the guide's laid-datum.mjs) off the statement by which the dump's own 'gosem.cut.vars' lays the variable. In a bare row this is a premise. The card (YtcimgnhebhhdiaaDoorCards.lean) ties it to the program's text. -/
def laid_unicode_utf8_acceptRanges {H : Type} : DataW H := .agg [.agg [.lit (.int .u8 128), .lit (.int .u8 191)], .agg [.lit (.int .u8 160), .lit (.int .u8 191)], .agg [.lit (.int .u8 128), .lit (.int .u8 159)], .agg [.lit (.int .u8 144), .lit (.int .u8 191)], .agg [.lit (.int .u8 128), .lit (.int .u8 143)], .agg [.lit (.int .u8 0), .lit (.int .u8 0)], .agg [.lit (.int .u8 0), .lit (.int .u8 0)], .agg [.lit (.int .u8 0), .lit (.int .u8 0)], .agg [.lit (.int .u8 0), .lit (.int .u8 0)], .agg [.lit (.int .u8 0), .lit (.int .u8 0)], .agg [.lit (.int .u8 0), .lit (.int .u8 0)], .agg [.lit (.int .u8 0), .lit (.int .u8 0)], .agg [.lit (.int .u8 0), .lit (.int .u8 0)], .agg [.lit (.int .u8 0), .lit (.int .u8 0)], .agg [.lit (.int .u8 0), .lit (.int .u8 0)], .agg [.lit (.int .u8 0), .lit (.int .u8 0)]]
/-- One of Go's own tables, pinned by name: the form's constant. -/
def laid_unicode_utf8_first : DataW Unit := Go.Pinned.utf8First

/-- 'laws.FnExactSpreadOf': WHATEVER THE INPUT: true; the input reads as it did. -/
def fnExactSpreadOfSpec : ChangeSpec := { name := "fnExactSpreadOf", fn := fun _ => fun
  | [d] => { results := [.lit (.bool true)], args := [d] }
  | _ => none }
def fnExactSpreadOfRow : OpenClaim := { program := "ytcimgnhebhhdiaadoor", sum := "0359f87f894a4402cce459f0a5708e5ffeb163d695d75ac1d70accba5b74bbde", func := "loop.example/gamesonstructures/laws.FnExactSpreadOf", spec := "fnExactSpreadOf", inPlace := ["internal/bytealg.IndexByteString", "internal/bytealg.IndexString"], named := ["unicode/utf8.first", "unicode/utf8.acceptRanges", "internal/bytealg.MaxLen"], apart := false, laid := [("unicode/utf8.acceptRanges", laid_unicode_utf8_acceptRanges), ("unicode/utf8.first", laid_unicode_utf8_first)] }
def FnExactSpreadOfSaid : Prop := fnExactSpreadOfRow.holds Tryd.pinned (OpenSpec.ofChange fnExactSpreadOfSpec)

/-- ITS FALSE NEIGHBOUR: 'it returns false'. Refute it at one input. -/
def fnExactSpreadOfWrong : ChangeSpec := { name := "fnExactSpreadOf", fn := fun _ => fun
  | [d] => { results := [.lit (.bool false)], args := [d] }
  | _ => none }
def FnExactSpreadOfWrongFalsely : Prop := fnExactSpreadOfRow.holds Tryd.pinned (OpenSpec.ofChange fnExactSpreadOfWrong)

/-- 'laws.FnExactLongestPartial': WHATEVER THE INPUT: true; the input reads as it did. -/
def fnExactLongestPartialSpec : ChangeSpec := { name := "fnExactLongestPartial", fn := fun _ => fun
  | [d1, d2, d3, d4] => { results := [.lit (.bool true)], args := [d1, d2, d3, d4] }
  | _ => none }
def fnExactLongestPartialRow : OpenClaim := { program := "ytcimgnhebhhdiaadoor", sum := "0359f87f894a4402cce459f0a5708e5ffeb163d695d75ac1d70accba5b74bbde", func := "loop.example/gamesonstructures/laws.FnExactLongestPartial", spec := "fnExactLongestPartial", inPlace := ["internal/bytealg.IndexByteString", "internal/bytealg.IndexString"], unfollowed := true, recurses := true, named := ["unicode/utf8.first", "unicode/utf8.acceptRanges", "internal/bytealg.MaxLen"], apart := false, laid := [("unicode/utf8.acceptRanges", laid_unicode_utf8_acceptRanges), ("unicode/utf8.first", laid_unicode_utf8_first)] }
def FnExactLongestPartialSaid : Prop := fnExactLongestPartialRow.holds Tryd.pinned (OpenSpec.ofChange fnExactLongestPartialSpec)

/-- ITS FALSE NEIGHBOUR: 'it returns false'. Refute it at one input. -/
def fnExactLongestPartialWrong : ChangeSpec := { name := "fnExactLongestPartial", fn := fun _ => fun
  | [d1, d2, d3, d4] => { results := [.lit (.bool false)], args := [d1, d2, d3, d4] }
  | _ => none }
def FnExactLongestPartialWrongFalsely : Prop := fnExactLongestPartialRow.holds Tryd.pinned (OpenSpec.ofChange fnExactLongestPartialWrong)

/-- 'laws.FnExactIsPartial': WHATEVER THE INPUT: true; the input reads as it did. -/
def fnExactIsPartialSpec : ChangeSpec := { name := "fnExactIsPartial", fn := fun _ => fun
  | [d1, d2, d3, d4] => { results := [.lit (.bool true)], args := [d1, d2, d3, d4] }
  | _ => none }
def fnExactIsPartialRow : OpenClaim := { program := "ytcimgnhebhhdiaadoor", sum := "0359f87f894a4402cce459f0a5708e5ffeb163d695d75ac1d70accba5b74bbde", func := "loop.example/gamesonstructures/laws.FnExactIsPartial", spec := "fnExactIsPartial", inPlace := ["internal/bytealg.IndexByteString", "internal/bytealg.IndexString"], unfollowed := true, recurses := true, named := ["unicode/utf8.first", "unicode/utf8.acceptRanges", "internal/bytealg.MaxLen"], apart := false, laid := [("unicode/utf8.acceptRanges", laid_unicode_utf8_acceptRanges), ("unicode/utf8.first", laid_unicode_utf8_first)] }
def FnExactIsPartialSaid : Prop := fnExactIsPartialRow.holds Tryd.pinned (OpenSpec.ofChange fnExactIsPartialSpec)

/-- ITS FALSE NEIGHBOUR: 'it returns false'. Refute it at one input. -/
def fnExactIsPartialWrong : ChangeSpec := { name := "fnExactIsPartial", fn := fun _ => fun
  | [d1, d2, d3, d4] => { results := [.lit (.bool false)], args := [d1, d2, d3, d4] }
  | _ => none }
def FnExactIsPartialWrongFalsely : Prop := fnExactIsPartialRow.holds Tryd.pinned (OpenSpec.ofChange fnExactIsPartialWrong)

/-- 'laws.FnExactAtomsOf': WHATEVER THE INPUT: true; the input reads as it did. -/
def fnExactAtomsOfSpec : ChangeSpec := { name := "fnExactAtomsOf", fn := fun _ => fun
  | [d1, d2] => { results := [.lit (.bool true)], args := [d1, d2] }
  | _ => none }
def fnExactAtomsOfRow : OpenClaim := { program := "ytcimgnhebhhdiaadoor", sum := "0359f87f894a4402cce459f0a5708e5ffeb163d695d75ac1d70accba5b74bbde", func := "loop.example/gamesonstructures/laws.FnExactAtomsOf", spec := "fnExactAtomsOf", inPlace := ["internal/bytealg.IndexByteString", "internal/bytealg.IndexString"], unfollowed := true, recurses := true, named := ["unicode/utf8.first", "unicode/utf8.acceptRanges", "internal/bytealg.MaxLen"], apart := false, laid := [("unicode/utf8.acceptRanges", laid_unicode_utf8_acceptRanges), ("unicode/utf8.first", laid_unicode_utf8_first)] }
def FnExactAtomsOfSaid : Prop := fnExactAtomsOfRow.holds Tryd.pinned (OpenSpec.ofChange fnExactAtomsOfSpec)

/-- ITS FALSE NEIGHBOUR: 'it returns false'. Refute it at one input. -/
def fnExactAtomsOfWrong : ChangeSpec := { name := "fnExactAtomsOf", fn := fun _ => fun
  | [d1, d2] => { results := [.lit (.bool false)], args := [d1, d2] }
  | _ => none }
def FnExactAtomsOfWrongFalsely : Prop := fnExactAtomsOfRow.holds Tryd.pinned (OpenSpec.ofChange fnExactAtomsOfWrong)

/-- 'laws.FnExactAnswersTo': WHATEVER THE INPUT: true; the input reads as it did. -/
def fnExactAnswersToSpec : ChangeSpec := { name := "fnExactAnswersTo", fn := fun _ => fun
  | [d1, d2, d3, d4, d5] => { results := [.lit (.bool true)], args := [d1, d2, d3, d4, d5] }
  | _ => none }
def fnExactAnswersToRow : OpenClaim := { program := "ytcimgnhebhhdiaadoor", sum := "0359f87f894a4402cce459f0a5708e5ffeb163d695d75ac1d70accba5b74bbde", func := "loop.example/gamesonstructures/laws.FnExactAnswersTo", spec := "fnExactAnswersTo", inPlace := ["internal/bytealg.IndexByteString", "internal/bytealg.IndexString"], unfollowed := true, recurses := true, named := ["unicode/utf8.first", "unicode/utf8.acceptRanges", "internal/bytealg.MaxLen"], apart := false, laid := [("unicode/utf8.acceptRanges", laid_unicode_utf8_acceptRanges), ("unicode/utf8.first", laid_unicode_utf8_first)] }
def FnExactAnswersToSaid : Prop := fnExactAnswersToRow.holds Tryd.pinned (OpenSpec.ofChange fnExactAnswersToSpec)

/-- ITS FALSE NEIGHBOUR: 'it returns false'. Refute it at one input. -/
def fnExactAnswersToWrong : ChangeSpec := { name := "fnExactAnswersTo", fn := fun _ => fun
  | [d1, d2, d3, d4, d5] => { results := [.lit (.bool false)], args := [d1, d2, d3, d4, d5] }
  | _ => none }
def FnExactAnswersToWrongFalsely : Prop := fnExactAnswersToRow.holds Tryd.pinned (OpenSpec.ofChange fnExactAnswersToWrong)

/-- 'laws.FnExactPebblesFit': WHATEVER THE INPUT: true; the input reads as it did. -/
def fnExactPebblesFitSpec : ChangeSpec := { name := "fnExactPebblesFit", fn := fun _ => fun
  | [d1, d2, d3, d4] => { results := [.lit (.bool true)], args := [d1, d2, d3, d4] }
  | _ => none }
def fnExactPebblesFitRow : OpenClaim := { program := "ytcimgnhebhhdiaadoor", sum := "0359f87f894a4402cce459f0a5708e5ffeb163d695d75ac1d70accba5b74bbde", func := "loop.example/gamesonstructures/laws.FnExactPebblesFit", spec := "fnExactPebblesFit", inPlace := ["internal/bytealg.IndexByteString", "internal/bytealg.IndexString"], unfollowed := true, recurses := true, named := ["unicode/utf8.first", "unicode/utf8.acceptRanges", "internal/bytealg.MaxLen"], apart := false, laid := [("unicode/utf8.acceptRanges", laid_unicode_utf8_acceptRanges), ("unicode/utf8.first", laid_unicode_utf8_first)] }
def FnExactPebblesFitSaid : Prop := fnExactPebblesFitRow.holds Tryd.pinned (OpenSpec.ofChange fnExactPebblesFitSpec)

/-- ITS FALSE NEIGHBOUR: 'it returns false'. Refute it at one input. -/
def fnExactPebblesFitWrong : ChangeSpec := { name := "fnExactPebblesFit", fn := fun _ => fun
  | [d1, d2, d3, d4] => { results := [.lit (.bool false)], args := [d1, d2, d3, d4] }
  | _ => none }
def FnExactPebblesFitWrongFalsely : Prop := fnExactPebblesFitRow.holds Tryd.pinned (OpenSpec.ofChange fnExactPebblesFitWrong)

/-- 'laws.FnExactCountKinds': WHATEVER THE INPUT: true; the input reads as it did. -/
def fnExactCountKindsSpec : ChangeSpec := { name := "fnExactCountKinds", fn := fun _ => fun
  | [d1, d2] => { results := [.lit (.bool true)], args := [d1, d2] }
  | _ => none }
def fnExactCountKindsRow : OpenClaim := { program := "ytcimgnhebhhdiaadoor", sum := "0359f87f894a4402cce459f0a5708e5ffeb163d695d75ac1d70accba5b74bbde", func := "loop.example/gamesonstructures/laws.FnExactCountKinds", spec := "fnExactCountKinds", inPlace := ["internal/bytealg.IndexByteString", "internal/bytealg.IndexString"], unfollowed := true, recurses := true, named := ["unicode/utf8.first", "unicode/utf8.acceptRanges", "internal/bytealg.MaxLen"], apart := false, laid := [("unicode/utf8.acceptRanges", laid_unicode_utf8_acceptRanges), ("unicode/utf8.first", laid_unicode_utf8_first)] }
def FnExactCountKindsSaid : Prop := fnExactCountKindsRow.holds Tryd.pinned (OpenSpec.ofChange fnExactCountKindsSpec)

/-- ITS FALSE NEIGHBOUR: 'it returns false'. Refute it at one input. -/
def fnExactCountKindsWrong : ChangeSpec := { name := "fnExactCountKinds", fn := fun _ => fun
  | [d1, d2] => { results := [.lit (.bool false)], args := [d1, d2] }
  | _ => none }
def FnExactCountKindsWrongFalsely : Prop := fnExactCountKindsRow.holds Tryd.pinned (OpenSpec.ofChange fnExactCountKindsWrong)

/-- 'laws.FnExactFactsFormula': WHATEVER THE INPUT: true; the input reads as it did. -/
def fnExactFactsFormulaSpec : ChangeSpec := { name := "fnExactFactsFormula", fn := fun _ => fun
  | [d1, d2] => { results := [.lit (.bool true)], args := [d1, d2] }
  | _ => none }
def fnExactFactsFormulaRow : OpenClaim := { program := "ytcimgnhebhhdiaadoor", sum := "0359f87f894a4402cce459f0a5708e5ffeb163d695d75ac1d70accba5b74bbde", func := "loop.example/gamesonstructures/laws.FnExactFactsFormula", spec := "fnExactFactsFormula", inPlace := ["internal/bytealg.IndexByteString", "internal/bytealg.IndexString"], unfollowed := true, recurses := true, named := ["unicode/utf8.first", "unicode/utf8.acceptRanges", "internal/bytealg.MaxLen"], apart := false, laid := [("unicode/utf8.acceptRanges", laid_unicode_utf8_acceptRanges), ("unicode/utf8.first", laid_unicode_utf8_first)] }
def FnExactFactsFormulaSaid : Prop := fnExactFactsFormulaRow.holds Tryd.pinned (OpenSpec.ofChange fnExactFactsFormulaSpec)

/-- ITS FALSE NEIGHBOUR: 'it returns false'. Refute it at one input. -/
def fnExactFactsFormulaWrong : ChangeSpec := { name := "fnExactFactsFormula", fn := fun _ => fun
  | [d1, d2] => { results := [.lit (.bool false)], args := [d1, d2] }
  | _ => none }
def FnExactFactsFormulaWrongFalsely : Prop := fnExactFactsFormulaRow.holds Tryd.pinned (OpenSpec.ofChange fnExactFactsFormulaWrong)

/-- 'laws.FnExactSameRank': WHATEVER THE INPUT: true; the input reads as it did. -/
def fnExactSameRankSpec : ChangeSpec := { name := "fnExactSameRank", fn := fun _ => fun
  | [d1, d2, d3] => { results := [.lit (.bool true)], args := [d1, d2, d3] }
  | _ => none }
def fnExactSameRankRow : OpenClaim := { program := "ytcimgnhebhhdiaadoor", sum := "0359f87f894a4402cce459f0a5708e5ffeb163d695d75ac1d70accba5b74bbde", func := "loop.example/gamesonstructures/laws.FnExactSameRank", spec := "fnExactSameRank", inPlace := ["internal/bytealg.IndexByteString", "internal/bytealg.IndexString"], unfollowed := true, recurses := true, named := ["unicode/utf8.first", "unicode/utf8.acceptRanges", "internal/bytealg.MaxLen"], apart := false, laid := [("unicode/utf8.acceptRanges", laid_unicode_utf8_acceptRanges), ("unicode/utf8.first", laid_unicode_utf8_first)] }
def FnExactSameRankSaid : Prop := fnExactSameRankRow.holds Tryd.pinned (OpenSpec.ofChange fnExactSameRankSpec)

/-- ITS FALSE NEIGHBOUR: 'it returns false'. Refute it at one input. -/
def fnExactSameRankWrong : ChangeSpec := { name := "fnExactSameRank", fn := fun _ => fun
  | [d1, d2, d3] => { results := [.lit (.bool false)], args := [d1, d2, d3] }
  | _ => none }
def FnExactSameRankWrongFalsely : Prop := fnExactSameRankRow.holds Tryd.pinned (OpenSpec.ofChange fnExactSameRankWrong)

/-- 'laws.FnExactSecondWins': WHATEVER THE INPUT: true; the input reads as it did. -/
def fnExactSecondWinsSpec : ChangeSpec := { name := "fnExactSecondWins", fn := fun _ => fun
  | [d1, d2, d3, d4, d5] => { results := [.lit (.bool true)], args := [d1, d2, d3, d4, d5] }
  | _ => none }
def fnExactSecondWinsRow : OpenClaim := { program := "ytcimgnhebhhdiaadoor", sum := "0359f87f894a4402cce459f0a5708e5ffeb163d695d75ac1d70accba5b74bbde", func := "loop.example/gamesonstructures/laws.FnExactSecondWins", spec := "fnExactSecondWins", inPlace := ["internal/bytealg.IndexByteString", "internal/bytealg.IndexString"], unfollowed := true, recurses := true, named := ["unicode/utf8.first", "unicode/utf8.acceptRanges", "internal/bytealg.MaxLen"], apart := false, laid := [("unicode/utf8.acceptRanges", laid_unicode_utf8_acceptRanges), ("unicode/utf8.first", laid_unicode_utf8_first)] }
def FnExactSecondWinsSaid : Prop := fnExactSecondWinsRow.holds Tryd.pinned (OpenSpec.ofChange fnExactSecondWinsSpec)

/-- ITS FALSE NEIGHBOUR: 'it returns false'. Refute it at one input. -/
def fnExactSecondWinsWrong : ChangeSpec := { name := "fnExactSecondWins", fn := fun _ => fun
  | [d1, d2, d3, d4, d5] => { results := [.lit (.bool false)], args := [d1, d2, d3, d4, d5] }
  | _ => none }
def FnExactSecondWinsWrongFalsely : Prop := fnExactSecondWinsRow.holds Tryd.pinned (OpenSpec.ofChange fnExactSecondWinsWrong)

/-- 'laws.FnExactWonRounds': WHATEVER THE INPUT: true; the input reads as it did. -/
def fnExactWonRoundsSpec : ChangeSpec := { name := "fnExactWonRounds", fn := fun _ => fun
  | [d1, d2, d3, d4] => { results := [.lit (.bool true)], args := [d1, d2, d3, d4] }
  | _ => none }
def fnExactWonRoundsRow : OpenClaim := { program := "ytcimgnhebhhdiaadoor", sum := "0359f87f894a4402cce459f0a5708e5ffeb163d695d75ac1d70accba5b74bbde", func := "loop.example/gamesonstructures/laws.FnExactWonRounds", spec := "fnExactWonRounds", inPlace := ["internal/bytealg.IndexByteString", "internal/bytealg.IndexString"], unfollowed := true, recurses := true, named := ["unicode/utf8.first", "unicode/utf8.acceptRanges", "internal/bytealg.MaxLen"], apart := false, laid := [("unicode/utf8.acceptRanges", laid_unicode_utf8_acceptRanges), ("unicode/utf8.first", laid_unicode_utf8_first)] }
def FnExactWonRoundsSaid : Prop := fnExactWonRoundsRow.holds Tryd.pinned (OpenSpec.ofChange fnExactWonRoundsSpec)

/-- ITS FALSE NEIGHBOUR: 'it returns false'. Refute it at one input. -/
def fnExactWonRoundsWrong : ChangeSpec := { name := "fnExactWonRounds", fn := fun _ => fun
  | [d1, d2, d3, d4] => { results := [.lit (.bool false)], args := [d1, d2, d3, d4] }
  | _ => none }
def FnExactWonRoundsWrongFalsely : Prop := fnExactWonRoundsRow.holds Tryd.pinned (OpenSpec.ofChange fnExactWonRoundsWrong)

/-- 'laws.FnExactCountClasses': WHATEVER THE INPUT: true; the input reads as it did. -/
def fnExactCountClassesSpec : ChangeSpec := { name := "fnExactCountClasses", fn := fun _ => fun
  | [d1, d2, d3] => { results := [.lit (.bool true)], args := [d1, d2, d3] }
  | _ => none }
def fnExactCountClassesRow : OpenClaim := { program := "ytcimgnhebhhdiaadoor", sum := "0359f87f894a4402cce459f0a5708e5ffeb163d695d75ac1d70accba5b74bbde", func := "loop.example/gamesonstructures/laws.FnExactCountClasses", spec := "fnExactCountClasses", inPlace := ["internal/bytealg.IndexByteString", "internal/bytealg.IndexString"], unfollowed := true, recurses := true, named := ["unicode/utf8.first", "unicode/utf8.acceptRanges", "internal/bytealg.MaxLen"], apart := false, laid := [("unicode/utf8.acceptRanges", laid_unicode_utf8_acceptRanges), ("unicode/utf8.first", laid_unicode_utf8_first)] }
def FnExactCountClassesSaid : Prop := fnExactCountClassesRow.holds Tryd.pinned (OpenSpec.ofChange fnExactCountClassesSpec)

/-- ITS FALSE NEIGHBOUR: 'it returns false'. Refute it at one input. -/
def fnExactCountClassesWrong : ChangeSpec := { name := "fnExactCountClasses", fn := fun _ => fun
  | [d1, d2, d3] => { results := [.lit (.bool false)], args := [d1, d2, d3] }
  | _ => none }
def FnExactCountClassesWrongFalsely : Prop := fnExactCountClassesRow.holds Tryd.pinned (OpenSpec.ofChange fnExactCountClassesWrong)

/- THE SECOND FORM. 'bulk': how many values and letters a reading holds, each counted each time it is reached (what is shared counts as often as it is met; a slice's spare places count too). A statement '..UptoSaid' is the law's where the arguments, and the package variables that the reading takes, are together of bulk at most 1048576: NARROWER than '..Said'. Prove '..Said' where nothing that the law and all that it calls make is longer than what came in: it says more and counts as full. Else prove '..UptoSaid'. A law counts once. -/
mutual
def uptoBulk {H : Type} : DataW H → Nat
  | .lit (.string bytes) => bytes.length + 1
  | .lit _ => 1
  | .nil => 1
  | .ptr d => uptoBulk d + 1
  | .slice elems spare => uptoBulkAll elems + uptoBulkAll spare + 1
  | .agg parts => uptoBulkAll parts + 1
  | .iface _ d => uptoBulk d + 1
  | .map entries => uptoBulkEntries entries + 1
  | .held _ => 1
def uptoBulkAll {H : Type} : List (DataW H) → Nat
  | [] => 0
  | d :: r => uptoBulk d + uptoBulkAll r
def uptoBulkEntries {H : Type} : List (Lit × DataW H) → Nat
  | [] => 0
  | x :: r => uptoBulkEntry x + uptoBulkEntries r
def uptoBulkEntry {H : Type} : Lit × DataW H → Nat
  | (.string bytes, d) => bytes.length + uptoBulk d + 1
  | (_, d) => uptoBulk d + 1
 end
def uptoSmall : (H : Type) → List (DataW H) → Bool := fun _ ds => decide (uptoBulkAll ds ≤ 1048576)
def OpenSpec.upto (s : _root_.Go.ChangeSpec) : _root_.Go.OpenSpec := { _root_.Go.OpenSpec.ofChange s with cond := some uptoSmall }

/-- 'laws.FnExactSpreadOf', WHERE WHAT IT READS IS OF BULK AT MOST 1048576: true; the input reads as it did. -/
def fnExactSpreadOfUptoRow : OpenClaim := { program := "ytcimgnhebhhdiaadoor", sum := "0359f87f894a4402cce459f0a5708e5ffeb163d695d75ac1d70accba5b74bbde", func := "loop.example/gamesonstructures/laws.FnExactSpreadOf", spec := "fnExactSpreadOf", inPlace := ["internal/bytealg.IndexByteString", "internal/bytealg.IndexString"], named := ["unicode/utf8.first", "unicode/utf8.acceptRanges", "internal/bytealg.MaxLen"], apart := false, laid := [("unicode/utf8.acceptRanges", laid_unicode_utf8_acceptRanges), ("unicode/utf8.first", laid_unicode_utf8_first)], narrowed := true }
def FnExactSpreadOfUptoSaid : Prop := fnExactSpreadOfUptoRow.holds Tryd.pinned (OpenSpec.upto fnExactSpreadOfSpec)

/-- 'laws.FnExactLongestPartial', WHERE WHAT IT READS IS OF BULK AT MOST 1048576: true; the input reads as it did. -/
def fnExactLongestPartialUptoRow : OpenClaim := { program := "ytcimgnhebhhdiaadoor", sum := "0359f87f894a4402cce459f0a5708e5ffeb163d695d75ac1d70accba5b74bbde", func := "loop.example/gamesonstructures/laws.FnExactLongestPartial", spec := "fnExactLongestPartial", inPlace := ["internal/bytealg.IndexByteString", "internal/bytealg.IndexString"], unfollowed := true, recurses := true, named := ["unicode/utf8.first", "unicode/utf8.acceptRanges", "internal/bytealg.MaxLen"], apart := false, laid := [("unicode/utf8.acceptRanges", laid_unicode_utf8_acceptRanges), ("unicode/utf8.first", laid_unicode_utf8_first)], narrowed := true }
def FnExactLongestPartialUptoSaid : Prop := fnExactLongestPartialUptoRow.holds Tryd.pinned (OpenSpec.upto fnExactLongestPartialSpec)

/-- 'laws.FnExactIsPartial', WHERE WHAT IT READS IS OF BULK AT MOST 1048576: true; the input reads as it did. -/
def fnExactIsPartialUptoRow : OpenClaim := { program := "ytcimgnhebhhdiaadoor", sum := "0359f87f894a4402cce459f0a5708e5ffeb163d695d75ac1d70accba5b74bbde", func := "loop.example/gamesonstructures/laws.FnExactIsPartial", spec := "fnExactIsPartial", inPlace := ["internal/bytealg.IndexByteString", "internal/bytealg.IndexString"], unfollowed := true, recurses := true, named := ["unicode/utf8.first", "unicode/utf8.acceptRanges", "internal/bytealg.MaxLen"], apart := false, laid := [("unicode/utf8.acceptRanges", laid_unicode_utf8_acceptRanges), ("unicode/utf8.first", laid_unicode_utf8_first)], narrowed := true }
def FnExactIsPartialUptoSaid : Prop := fnExactIsPartialUptoRow.holds Tryd.pinned (OpenSpec.upto fnExactIsPartialSpec)

/-- 'laws.FnExactAtomsOf', WHERE WHAT IT READS IS OF BULK AT MOST 1048576: true; the input reads as it did. -/
def fnExactAtomsOfUptoRow : OpenClaim := { program := "ytcimgnhebhhdiaadoor", sum := "0359f87f894a4402cce459f0a5708e5ffeb163d695d75ac1d70accba5b74bbde", func := "loop.example/gamesonstructures/laws.FnExactAtomsOf", spec := "fnExactAtomsOf", inPlace := ["internal/bytealg.IndexByteString", "internal/bytealg.IndexString"], unfollowed := true, recurses := true, named := ["unicode/utf8.first", "unicode/utf8.acceptRanges", "internal/bytealg.MaxLen"], apart := false, laid := [("unicode/utf8.acceptRanges", laid_unicode_utf8_acceptRanges), ("unicode/utf8.first", laid_unicode_utf8_first)], narrowed := true }
def FnExactAtomsOfUptoSaid : Prop := fnExactAtomsOfUptoRow.holds Tryd.pinned (OpenSpec.upto fnExactAtomsOfSpec)

/-- 'laws.FnExactAnswersTo', WHERE WHAT IT READS IS OF BULK AT MOST 1048576: true; the input reads as it did. -/
def fnExactAnswersToUptoRow : OpenClaim := { program := "ytcimgnhebhhdiaadoor", sum := "0359f87f894a4402cce459f0a5708e5ffeb163d695d75ac1d70accba5b74bbde", func := "loop.example/gamesonstructures/laws.FnExactAnswersTo", spec := "fnExactAnswersTo", inPlace := ["internal/bytealg.IndexByteString", "internal/bytealg.IndexString"], unfollowed := true, recurses := true, named := ["unicode/utf8.first", "unicode/utf8.acceptRanges", "internal/bytealg.MaxLen"], apart := false, laid := [("unicode/utf8.acceptRanges", laid_unicode_utf8_acceptRanges), ("unicode/utf8.first", laid_unicode_utf8_first)], narrowed := true }
def FnExactAnswersToUptoSaid : Prop := fnExactAnswersToUptoRow.holds Tryd.pinned (OpenSpec.upto fnExactAnswersToSpec)

/-- 'laws.FnExactPebblesFit', WHERE WHAT IT READS IS OF BULK AT MOST 1048576: true; the input reads as it did. -/
def fnExactPebblesFitUptoRow : OpenClaim := { program := "ytcimgnhebhhdiaadoor", sum := "0359f87f894a4402cce459f0a5708e5ffeb163d695d75ac1d70accba5b74bbde", func := "loop.example/gamesonstructures/laws.FnExactPebblesFit", spec := "fnExactPebblesFit", inPlace := ["internal/bytealg.IndexByteString", "internal/bytealg.IndexString"], unfollowed := true, recurses := true, named := ["unicode/utf8.first", "unicode/utf8.acceptRanges", "internal/bytealg.MaxLen"], apart := false, laid := [("unicode/utf8.acceptRanges", laid_unicode_utf8_acceptRanges), ("unicode/utf8.first", laid_unicode_utf8_first)], narrowed := true }
def FnExactPebblesFitUptoSaid : Prop := fnExactPebblesFitUptoRow.holds Tryd.pinned (OpenSpec.upto fnExactPebblesFitSpec)

/-- 'laws.FnExactCountKinds', WHERE WHAT IT READS IS OF BULK AT MOST 1048576: true; the input reads as it did. -/
def fnExactCountKindsUptoRow : OpenClaim := { program := "ytcimgnhebhhdiaadoor", sum := "0359f87f894a4402cce459f0a5708e5ffeb163d695d75ac1d70accba5b74bbde", func := "loop.example/gamesonstructures/laws.FnExactCountKinds", spec := "fnExactCountKinds", inPlace := ["internal/bytealg.IndexByteString", "internal/bytealg.IndexString"], unfollowed := true, recurses := true, named := ["unicode/utf8.first", "unicode/utf8.acceptRanges", "internal/bytealg.MaxLen"], apart := false, laid := [("unicode/utf8.acceptRanges", laid_unicode_utf8_acceptRanges), ("unicode/utf8.first", laid_unicode_utf8_first)], narrowed := true }
def FnExactCountKindsUptoSaid : Prop := fnExactCountKindsUptoRow.holds Tryd.pinned (OpenSpec.upto fnExactCountKindsSpec)

/-- 'laws.FnExactFactsFormula', WHERE WHAT IT READS IS OF BULK AT MOST 1048576: true; the input reads as it did. -/
def fnExactFactsFormulaUptoRow : OpenClaim := { program := "ytcimgnhebhhdiaadoor", sum := "0359f87f894a4402cce459f0a5708e5ffeb163d695d75ac1d70accba5b74bbde", func := "loop.example/gamesonstructures/laws.FnExactFactsFormula", spec := "fnExactFactsFormula", inPlace := ["internal/bytealg.IndexByteString", "internal/bytealg.IndexString"], unfollowed := true, recurses := true, named := ["unicode/utf8.first", "unicode/utf8.acceptRanges", "internal/bytealg.MaxLen"], apart := false, laid := [("unicode/utf8.acceptRanges", laid_unicode_utf8_acceptRanges), ("unicode/utf8.first", laid_unicode_utf8_first)], narrowed := true }
def FnExactFactsFormulaUptoSaid : Prop := fnExactFactsFormulaUptoRow.holds Tryd.pinned (OpenSpec.upto fnExactFactsFormulaSpec)

/-- 'laws.FnExactSameRank', WHERE WHAT IT READS IS OF BULK AT MOST 1048576: true; the input reads as it did. -/
def fnExactSameRankUptoRow : OpenClaim := { program := "ytcimgnhebhhdiaadoor", sum := "0359f87f894a4402cce459f0a5708e5ffeb163d695d75ac1d70accba5b74bbde", func := "loop.example/gamesonstructures/laws.FnExactSameRank", spec := "fnExactSameRank", inPlace := ["internal/bytealg.IndexByteString", "internal/bytealg.IndexString"], unfollowed := true, recurses := true, named := ["unicode/utf8.first", "unicode/utf8.acceptRanges", "internal/bytealg.MaxLen"], apart := false, laid := [("unicode/utf8.acceptRanges", laid_unicode_utf8_acceptRanges), ("unicode/utf8.first", laid_unicode_utf8_first)], narrowed := true }
def FnExactSameRankUptoSaid : Prop := fnExactSameRankUptoRow.holds Tryd.pinned (OpenSpec.upto fnExactSameRankSpec)

/-- 'laws.FnExactSecondWins', WHERE WHAT IT READS IS OF BULK AT MOST 1048576: true; the input reads as it did. -/
def fnExactSecondWinsUptoRow : OpenClaim := { program := "ytcimgnhebhhdiaadoor", sum := "0359f87f894a4402cce459f0a5708e5ffeb163d695d75ac1d70accba5b74bbde", func := "loop.example/gamesonstructures/laws.FnExactSecondWins", spec := "fnExactSecondWins", inPlace := ["internal/bytealg.IndexByteString", "internal/bytealg.IndexString"], unfollowed := true, recurses := true, named := ["unicode/utf8.first", "unicode/utf8.acceptRanges", "internal/bytealg.MaxLen"], apart := false, laid := [("unicode/utf8.acceptRanges", laid_unicode_utf8_acceptRanges), ("unicode/utf8.first", laid_unicode_utf8_first)], narrowed := true }
def FnExactSecondWinsUptoSaid : Prop := fnExactSecondWinsUptoRow.holds Tryd.pinned (OpenSpec.upto fnExactSecondWinsSpec)

/-- 'laws.FnExactWonRounds', WHERE WHAT IT READS IS OF BULK AT MOST 1048576: true; the input reads as it did. -/
def fnExactWonRoundsUptoRow : OpenClaim := { program := "ytcimgnhebhhdiaadoor", sum := "0359f87f894a4402cce459f0a5708e5ffeb163d695d75ac1d70accba5b74bbde", func := "loop.example/gamesonstructures/laws.FnExactWonRounds", spec := "fnExactWonRounds", inPlace := ["internal/bytealg.IndexByteString", "internal/bytealg.IndexString"], unfollowed := true, recurses := true, named := ["unicode/utf8.first", "unicode/utf8.acceptRanges", "internal/bytealg.MaxLen"], apart := false, laid := [("unicode/utf8.acceptRanges", laid_unicode_utf8_acceptRanges), ("unicode/utf8.first", laid_unicode_utf8_first)], narrowed := true }
def FnExactWonRoundsUptoSaid : Prop := fnExactWonRoundsUptoRow.holds Tryd.pinned (OpenSpec.upto fnExactWonRoundsSpec)

/-- 'laws.FnExactCountClasses', WHERE WHAT IT READS IS OF BULK AT MOST 1048576: true; the input reads as it did. -/
def fnExactCountClassesUptoRow : OpenClaim := { program := "ytcimgnhebhhdiaadoor", sum := "0359f87f894a4402cce459f0a5708e5ffeb163d695d75ac1d70accba5b74bbde", func := "loop.example/gamesonstructures/laws.FnExactCountClasses", spec := "fnExactCountClasses", inPlace := ["internal/bytealg.IndexByteString", "internal/bytealg.IndexString"], unfollowed := true, recurses := true, named := ["unicode/utf8.first", "unicode/utf8.acceptRanges", "internal/bytealg.MaxLen"], apart := false, laid := [("unicode/utf8.acceptRanges", laid_unicode_utf8_acceptRanges), ("unicode/utf8.first", laid_unicode_utf8_first)], narrowed := true }
def FnExactCountClassesUptoSaid : Prop := fnExactCountClassesUptoRow.holds Tryd.pinned (OpenSpec.upto fnExactCountClassesSpec)

end Rows
end Go.Proofs.YtcimgnhebhhdiaaDoor
