/-
  NARROWER THAN 'FOR EVERY INPUT', by the rows' own cells (each row's printed sentence says how): FnPebblesFit: laid · FnAnswers: laid · FnSecondWins: laid · FnEquivalence: laid · FnCountKinds: laid · FnCountClasses: laid · FnClasses: laid · FnSecondReply: laid · FnFirstMove: laid · FnWonRounds: laid · FnExactTurnsToWin: laid · FnExactPebblesWin: laid.
  DERIVED. THE GIVEN ROWS OF THIS SEAT. 12 by the template 'for every input the law returns true; each argument reads behind the call as it read before'; 0 by the template 'total and deterministic' (their statements: YtmannilblelfjaaDoorTotals.lean).
  GIVEN WITH THE SEED: the statements are not yours to turn. If you find one false, say at which input.
  Laid BY PROGRAM, IN A SANDBOX (cutbox-rows.mjs): the forced cells as the released guide's own fill.sh prints them over the translation 15f020a5b7072bac… (all of the seat's roots in one cut). By AI agents, Wed Nov 11 2026. No macro, syntax, notation, axiom, sorry.
-/
import Derived.Test.YtmannilblelfjaaDoorChecked
import GoSem.PinnedTables
import GoSem.Claim
import GoSem.ClaimJoined
import GoSem.ClaimMapViews
import Derived.JoinedTies
import Derived.KernelRfl
namespace Go.Proofs.YtmannilblelfjaaDoor
/- THE CELL 'sum', in the pinned program and in every row, IS THE sha256 OF THE DUMP (.gsa) THAT YtmannilblelfjaaDoorProg.lean LOADS. Nothing in Lean hashes anything: it is a label: what it is worth is what the hold of that sum in a sandbox is worth. -/
noncomputable def Tryd.pinned : Pinned := { name := "ytmannilblelfjaadoor", sum := "15f020a5b7072bac6afab2b938f88e9a392a952abd5959ab1d49ebea3b887495", checked := Tryd.checked }
namespace Rows
def none {H : Type} : Left H := { results := [], args := [] }

/- WHAT THE LISTED PACKAGE-LEVEL VARIABLES READ AS WHEN THE CALL BEGINS. Each datum BY PROGRAM (the guide's laid-datum.mjs) off the statement by which the dump's own 'gosem.cut.vars' lays the variable. In a bare row this is a premise. The card (YtmannilblelfjaaDoorCards.lean) ties it to the program's text. -/
def laid_unicode_utf8_acceptRanges {H : Type} : DataW H := .agg [.agg [.lit (.int .u8 128), .lit (.int .u8 191)], .agg [.lit (.int .u8 160), .lit (.int .u8 191)], .agg [.lit (.int .u8 128), .lit (.int .u8 159)], .agg [.lit (.int .u8 144), .lit (.int .u8 191)], .agg [.lit (.int .u8 128), .lit (.int .u8 143)], .agg [.lit (.int .u8 0), .lit (.int .u8 0)], .agg [.lit (.int .u8 0), .lit (.int .u8 0)], .agg [.lit (.int .u8 0), .lit (.int .u8 0)], .agg [.lit (.int .u8 0), .lit (.int .u8 0)], .agg [.lit (.int .u8 0), .lit (.int .u8 0)], .agg [.lit (.int .u8 0), .lit (.int .u8 0)], .agg [.lit (.int .u8 0), .lit (.int .u8 0)], .agg [.lit (.int .u8 0), .lit (.int .u8 0)], .agg [.lit (.int .u8 0), .lit (.int .u8 0)], .agg [.lit (.int .u8 0), .lit (.int .u8 0)], .agg [.lit (.int .u8 0), .lit (.int .u8 0)]]
/-- One of Go's own tables, pinned by name: the form's constant. -/
def laid_unicode_utf8_first : DataW Unit := Go.Pinned.utf8First

/-- 'laws.FnPebblesFit': WHATEVER THE INPUT: true; the input reads as it did. -/
def fnPebblesFitSpec : ChangeSpec := { name := "fnPebblesFit", fn := fun _ => fun
  | [d] => { results := [.lit (.bool true)], args := [d] }
  | _ => none }
def fnPebblesFitRow : OpenClaim := { program := "ytmannilblelfjaadoor", sum := "15f020a5b7072bac6afab2b938f88e9a392a952abd5959ab1d49ebea3b887495", func := "loop.example/gamesonstructures/laws.FnPebblesFit", spec := "fnPebblesFit", inPlace := ["internal/bytealg.IndexByteString", "internal/bytealg.IndexString"], unfollowed := true, recurses := true, named := ["unicode/utf8.first", "unicode/utf8.acceptRanges", "internal/bytealg.MaxLen"], apart := false, laid := [("unicode/utf8.acceptRanges", laid_unicode_utf8_acceptRanges), ("unicode/utf8.first", laid_unicode_utf8_first)] }
def FnPebblesFitSaid : Prop := fnPebblesFitRow.holds Tryd.pinned (OpenSpec.ofChange fnPebblesFitSpec)

/-- ITS FALSE NEIGHBOUR: 'it returns false'. Refute it at one input. -/
def fnPebblesFitWrong : ChangeSpec := { name := "fnPebblesFit", fn := fun _ => fun
  | [d] => { results := [.lit (.bool false)], args := [d] }
  | _ => none }
def FnPebblesFitWrongFalsely : Prop := fnPebblesFitRow.holds Tryd.pinned (OpenSpec.ofChange fnPebblesFitWrong)

/-- 'laws.FnAnswers': WHATEVER THE INPUT: true; the input reads as it did. -/
def fnAnswersSpec : ChangeSpec := { name := "fnAnswers", fn := fun _ => fun
  | [d] => { results := [.lit (.bool true)], args := [d] }
  | _ => none }
def fnAnswersRow : OpenClaim := { program := "ytmannilblelfjaadoor", sum := "15f020a5b7072bac6afab2b938f88e9a392a952abd5959ab1d49ebea3b887495", func := "loop.example/gamesonstructures/laws.FnAnswers", spec := "fnAnswers", inPlace := ["internal/bytealg.IndexByteString", "internal/bytealg.IndexString"], unfollowed := true, recurses := true, named := ["unicode/utf8.first", "unicode/utf8.acceptRanges", "internal/bytealg.MaxLen"], apart := false, laid := [("unicode/utf8.acceptRanges", laid_unicode_utf8_acceptRanges), ("unicode/utf8.first", laid_unicode_utf8_first)] }
def FnAnswersSaid : Prop := fnAnswersRow.holds Tryd.pinned (OpenSpec.ofChange fnAnswersSpec)

/-- ITS FALSE NEIGHBOUR: 'it returns false'. Refute it at one input. -/
def fnAnswersWrong : ChangeSpec := { name := "fnAnswers", fn := fun _ => fun
  | [d] => { results := [.lit (.bool false)], args := [d] }
  | _ => none }
def FnAnswersWrongFalsely : Prop := fnAnswersRow.holds Tryd.pinned (OpenSpec.ofChange fnAnswersWrong)

/-- 'laws.FnSecondWins': WHATEVER THE INPUT: true; the input reads as it did. -/
def fnSecondWinsSpec : ChangeSpec := { name := "fnSecondWins", fn := fun _ => fun
  | [d] => { results := [.lit (.bool true)], args := [d] }
  | _ => none }
def fnSecondWinsRow : OpenClaim := { program := "ytmannilblelfjaadoor", sum := "15f020a5b7072bac6afab2b938f88e9a392a952abd5959ab1d49ebea3b887495", func := "loop.example/gamesonstructures/laws.FnSecondWins", spec := "fnSecondWins", inPlace := ["internal/bytealg.IndexByteString", "internal/bytealg.IndexString"], unfollowed := true, recurses := true, named := ["unicode/utf8.first", "unicode/utf8.acceptRanges", "internal/bytealg.MaxLen"], apart := false, laid := [("unicode/utf8.acceptRanges", laid_unicode_utf8_acceptRanges), ("unicode/utf8.first", laid_unicode_utf8_first)] }
def FnSecondWinsSaid : Prop := fnSecondWinsRow.holds Tryd.pinned (OpenSpec.ofChange fnSecondWinsSpec)

/-- ITS FALSE NEIGHBOUR: 'it returns false'. Refute it at one input. -/
def fnSecondWinsWrong : ChangeSpec := { name := "fnSecondWins", fn := fun _ => fun
  | [d] => { results := [.lit (.bool false)], args := [d] }
  | _ => none }
def FnSecondWinsWrongFalsely : Prop := fnSecondWinsRow.holds Tryd.pinned (OpenSpec.ofChange fnSecondWinsWrong)

/-- 'laws.FnEquivalence': WHATEVER THE INPUT: true; the input reads as it did. -/
def fnEquivalenceSpec : ChangeSpec := { name := "fnEquivalence", fn := fun _ => fun
  | [d1, d2] => { results := [.lit (.bool true)], args := [d1, d2] }
  | _ => none }
def fnEquivalenceRow : OpenClaim := { program := "ytmannilblelfjaadoor", sum := "15f020a5b7072bac6afab2b938f88e9a392a952abd5959ab1d49ebea3b887495", func := "loop.example/gamesonstructures/laws.FnEquivalence", spec := "fnEquivalence", inPlace := ["internal/bytealg.IndexByteString", "internal/bytealg.IndexString"], unfollowed := true, recurses := true, named := ["unicode/utf8.first", "unicode/utf8.acceptRanges", "internal/bytealg.MaxLen"], apart := false, laid := [("unicode/utf8.acceptRanges", laid_unicode_utf8_acceptRanges), ("unicode/utf8.first", laid_unicode_utf8_first)] }
def FnEquivalenceSaid : Prop := fnEquivalenceRow.holds Tryd.pinned (OpenSpec.ofChange fnEquivalenceSpec)

/-- ITS FALSE NEIGHBOUR: 'it returns false'. Refute it at one input. -/
def fnEquivalenceWrong : ChangeSpec := { name := "fnEquivalence", fn := fun _ => fun
  | [d1, d2] => { results := [.lit (.bool false)], args := [d1, d2] }
  | _ => none }
def FnEquivalenceWrongFalsely : Prop := fnEquivalenceRow.holds Tryd.pinned (OpenSpec.ofChange fnEquivalenceWrong)

/-- 'laws.FnCountKinds': WHATEVER THE INPUT: true; the input reads as it did. -/
def fnCountKindsSpec : ChangeSpec := { name := "fnCountKinds", fn := fun _ => fun
  | [d] => { results := [.lit (.bool true)], args := [d] }
  | _ => none }
def fnCountKindsRow : OpenClaim := { program := "ytmannilblelfjaadoor", sum := "15f020a5b7072bac6afab2b938f88e9a392a952abd5959ab1d49ebea3b887495", func := "loop.example/gamesonstructures/laws.FnCountKinds", spec := "fnCountKinds", inPlace := ["internal/bytealg.IndexByteString", "internal/bytealg.IndexString"], unfollowed := true, recurses := true, named := ["unicode/utf8.first", "unicode/utf8.acceptRanges", "internal/bytealg.MaxLen"], apart := false, laid := [("unicode/utf8.acceptRanges", laid_unicode_utf8_acceptRanges), ("unicode/utf8.first", laid_unicode_utf8_first)] }
def FnCountKindsSaid : Prop := fnCountKindsRow.holds Tryd.pinned (OpenSpec.ofChange fnCountKindsSpec)

/-- ITS FALSE NEIGHBOUR: 'it returns false'. Refute it at one input. -/
def fnCountKindsWrong : ChangeSpec := { name := "fnCountKinds", fn := fun _ => fun
  | [d] => { results := [.lit (.bool false)], args := [d] }
  | _ => none }
def FnCountKindsWrongFalsely : Prop := fnCountKindsRow.holds Tryd.pinned (OpenSpec.ofChange fnCountKindsWrong)

/-- 'laws.FnCountClasses': WHATEVER THE INPUT: true; the input reads as it did. -/
def fnCountClassesSpec : ChangeSpec := { name := "fnCountClasses", fn := fun _ => fun
  | [d] => { results := [.lit (.bool true)], args := [d] }
  | _ => none }
def fnCountClassesRow : OpenClaim := { program := "ytmannilblelfjaadoor", sum := "15f020a5b7072bac6afab2b938f88e9a392a952abd5959ab1d49ebea3b887495", func := "loop.example/gamesonstructures/laws.FnCountClasses", spec := "fnCountClasses", inPlace := ["internal/bytealg.IndexByteString", "internal/bytealg.IndexString"], unfollowed := true, recurses := true, named := ["unicode/utf8.first", "unicode/utf8.acceptRanges", "internal/bytealg.MaxLen"], apart := false, laid := [("unicode/utf8.acceptRanges", laid_unicode_utf8_acceptRanges), ("unicode/utf8.first", laid_unicode_utf8_first)] }
def FnCountClassesSaid : Prop := fnCountClassesRow.holds Tryd.pinned (OpenSpec.ofChange fnCountClassesSpec)

/-- ITS FALSE NEIGHBOUR: 'it returns false'. Refute it at one input. -/
def fnCountClassesWrong : ChangeSpec := { name := "fnCountClasses", fn := fun _ => fun
  | [d] => { results := [.lit (.bool false)], args := [d] }
  | _ => none }
def FnCountClassesWrongFalsely : Prop := fnCountClassesRow.holds Tryd.pinned (OpenSpec.ofChange fnCountClassesWrong)

/-- 'laws.FnClasses': WHATEVER THE INPUT: true; the input reads as it did. -/
def fnClassesSpec : ChangeSpec := { name := "fnClasses", fn := fun _ => fun
  | [d] => { results := [.lit (.bool true)], args := [d] }
  | _ => none }
def fnClassesRow : OpenClaim := { program := "ytmannilblelfjaadoor", sum := "15f020a5b7072bac6afab2b938f88e9a392a952abd5959ab1d49ebea3b887495", func := "loop.example/gamesonstructures/laws.FnClasses", spec := "fnClasses", inPlace := ["internal/bytealg.IndexByteString", "internal/bytealg.IndexString"], unfollowed := true, recurses := true, named := ["unicode/utf8.first", "unicode/utf8.acceptRanges", "internal/bytealg.MaxLen"], apart := false, laid := [("unicode/utf8.acceptRanges", laid_unicode_utf8_acceptRanges), ("unicode/utf8.first", laid_unicode_utf8_first)] }
def FnClassesSaid : Prop := fnClassesRow.holds Tryd.pinned (OpenSpec.ofChange fnClassesSpec)

/-- ITS FALSE NEIGHBOUR: 'it returns false'. Refute it at one input. -/
def fnClassesWrong : ChangeSpec := { name := "fnClasses", fn := fun _ => fun
  | [d] => { results := [.lit (.bool false)], args := [d] }
  | _ => none }
def FnClassesWrongFalsely : Prop := fnClassesRow.holds Tryd.pinned (OpenSpec.ofChange fnClassesWrong)

/-- 'laws.FnSecondReply': WHATEVER THE INPUT: true; the input reads as it did. -/
def fnSecondReplySpec : ChangeSpec := { name := "fnSecondReply", fn := fun _ => fun
  | [d] => { results := [.lit (.bool true)], args := [d] }
  | _ => none }
def fnSecondReplyRow : OpenClaim := { program := "ytmannilblelfjaadoor", sum := "15f020a5b7072bac6afab2b938f88e9a392a952abd5959ab1d49ebea3b887495", func := "loop.example/gamesonstructures/laws.FnSecondReply", spec := "fnSecondReply", inPlace := ["internal/bytealg.IndexByteString", "internal/bytealg.IndexString"], unfollowed := true, recurses := true, named := ["unicode/utf8.first", "unicode/utf8.acceptRanges", "internal/bytealg.MaxLen"], apart := false, laid := [("unicode/utf8.acceptRanges", laid_unicode_utf8_acceptRanges), ("unicode/utf8.first", laid_unicode_utf8_first)] }
def FnSecondReplySaid : Prop := fnSecondReplyRow.holds Tryd.pinned (OpenSpec.ofChange fnSecondReplySpec)

/-- ITS FALSE NEIGHBOUR: 'it returns false'. Refute it at one input. -/
def fnSecondReplyWrong : ChangeSpec := { name := "fnSecondReply", fn := fun _ => fun
  | [d] => { results := [.lit (.bool false)], args := [d] }
  | _ => none }
def FnSecondReplyWrongFalsely : Prop := fnSecondReplyRow.holds Tryd.pinned (OpenSpec.ofChange fnSecondReplyWrong)

/-- 'laws.FnFirstMove': WHATEVER THE INPUT: true; the input reads as it did. -/
def fnFirstMoveSpec : ChangeSpec := { name := "fnFirstMove", fn := fun _ => fun
  | [d] => { results := [.lit (.bool true)], args := [d] }
  | _ => none }
def fnFirstMoveRow : OpenClaim := { program := "ytmannilblelfjaadoor", sum := "15f020a5b7072bac6afab2b938f88e9a392a952abd5959ab1d49ebea3b887495", func := "loop.example/gamesonstructures/laws.FnFirstMove", spec := "fnFirstMove", inPlace := ["internal/bytealg.IndexByteString", "internal/bytealg.IndexString"], unfollowed := true, recurses := true, named := ["unicode/utf8.first", "unicode/utf8.acceptRanges", "internal/bytealg.MaxLen"], apart := false, laid := [("unicode/utf8.acceptRanges", laid_unicode_utf8_acceptRanges), ("unicode/utf8.first", laid_unicode_utf8_first)] }
def FnFirstMoveSaid : Prop := fnFirstMoveRow.holds Tryd.pinned (OpenSpec.ofChange fnFirstMoveSpec)

/-- ITS FALSE NEIGHBOUR: 'it returns false'. Refute it at one input. -/
def fnFirstMoveWrong : ChangeSpec := { name := "fnFirstMove", fn := fun _ => fun
  | [d] => { results := [.lit (.bool false)], args := [d] }
  | _ => none }
def FnFirstMoveWrongFalsely : Prop := fnFirstMoveRow.holds Tryd.pinned (OpenSpec.ofChange fnFirstMoveWrong)

/-- 'laws.FnWonRounds': WHATEVER THE INPUT: true; the input reads as it did. -/
def fnWonRoundsSpec : ChangeSpec := { name := "fnWonRounds", fn := fun _ => fun
  | [d] => { results := [.lit (.bool true)], args := [d] }
  | _ => none }
def fnWonRoundsRow : OpenClaim := { program := "ytmannilblelfjaadoor", sum := "15f020a5b7072bac6afab2b938f88e9a392a952abd5959ab1d49ebea3b887495", func := "loop.example/gamesonstructures/laws.FnWonRounds", spec := "fnWonRounds", inPlace := ["internal/bytealg.IndexByteString", "internal/bytealg.IndexString"], unfollowed := true, recurses := true, named := ["unicode/utf8.first", "unicode/utf8.acceptRanges", "internal/bytealg.MaxLen"], apart := false, laid := [("unicode/utf8.acceptRanges", laid_unicode_utf8_acceptRanges), ("unicode/utf8.first", laid_unicode_utf8_first)] }
def FnWonRoundsSaid : Prop := fnWonRoundsRow.holds Tryd.pinned (OpenSpec.ofChange fnWonRoundsSpec)

/-- ITS FALSE NEIGHBOUR: 'it returns false'. Refute it at one input. -/
def fnWonRoundsWrong : ChangeSpec := { name := "fnWonRounds", fn := fun _ => fun
  | [d] => { results := [.lit (.bool false)], args := [d] }
  | _ => none }
def FnWonRoundsWrongFalsely : Prop := fnWonRoundsRow.holds Tryd.pinned (OpenSpec.ofChange fnWonRoundsWrong)

/-- 'laws.FnExactTurnsToWin': WHATEVER THE INPUT: true; the input reads as it did. -/
def fnExactTurnsToWinSpec : ChangeSpec := { name := "fnExactTurnsToWin", fn := fun _ => fun
  | [d1, d2, d3] => { results := [.lit (.bool true)], args := [d1, d2, d3] }
  | _ => none }
def fnExactTurnsToWinRow : OpenClaim := { program := "ytmannilblelfjaadoor", sum := "15f020a5b7072bac6afab2b938f88e9a392a952abd5959ab1d49ebea3b887495", func := "loop.example/gamesonstructures/laws.FnExactTurnsToWin", spec := "fnExactTurnsToWin", inPlace := ["internal/bytealg.IndexByteString", "internal/bytealg.IndexString"], unfollowed := true, recurses := true, named := ["unicode/utf8.first", "unicode/utf8.acceptRanges", "internal/bytealg.MaxLen"], apart := false, laid := [("unicode/utf8.acceptRanges", laid_unicode_utf8_acceptRanges), ("unicode/utf8.first", laid_unicode_utf8_first)] }
def FnExactTurnsToWinSaid : Prop := fnExactTurnsToWinRow.holds Tryd.pinned (OpenSpec.ofChange fnExactTurnsToWinSpec)

/-- ITS FALSE NEIGHBOUR: 'it returns false'. Refute it at one input. -/
def fnExactTurnsToWinWrong : ChangeSpec := { name := "fnExactTurnsToWin", fn := fun _ => fun
  | [d1, d2, d3] => { results := [.lit (.bool false)], args := [d1, d2, d3] }
  | _ => none }
def FnExactTurnsToWinWrongFalsely : Prop := fnExactTurnsToWinRow.holds Tryd.pinned (OpenSpec.ofChange fnExactTurnsToWinWrong)

/-- 'laws.FnExactPebblesWin': WHATEVER THE INPUT: true; the input reads as it did. -/
def fnExactPebblesWinSpec : ChangeSpec := { name := "fnExactPebblesWin", fn := fun _ => fun
  | [d1, d2, d3, d4, d5] => { results := [.lit (.bool true)], args := [d1, d2, d3, d4, d5] }
  | _ => none }
def fnExactPebblesWinRow : OpenClaim := { program := "ytmannilblelfjaadoor", sum := "15f020a5b7072bac6afab2b938f88e9a392a952abd5959ab1d49ebea3b887495", func := "loop.example/gamesonstructures/laws.FnExactPebblesWin", spec := "fnExactPebblesWin", inPlace := ["internal/bytealg.IndexByteString", "internal/bytealg.IndexString"], unfollowed := true, recurses := true, named := ["unicode/utf8.first", "unicode/utf8.acceptRanges", "internal/bytealg.MaxLen"], apart := false, laid := [("unicode/utf8.acceptRanges", laid_unicode_utf8_acceptRanges), ("unicode/utf8.first", laid_unicode_utf8_first)] }
def FnExactPebblesWinSaid : Prop := fnExactPebblesWinRow.holds Tryd.pinned (OpenSpec.ofChange fnExactPebblesWinSpec)

/-- ITS FALSE NEIGHBOUR: 'it returns false'. Refute it at one input. -/
def fnExactPebblesWinWrong : ChangeSpec := { name := "fnExactPebblesWin", fn := fun _ => fun
  | [d1, d2, d3, d4, d5] => { results := [.lit (.bool false)], args := [d1, d2, d3, d4, d5] }
  | _ => none }
def FnExactPebblesWinWrongFalsely : Prop := fnExactPebblesWinRow.holds Tryd.pinned (OpenSpec.ofChange fnExactPebblesWinWrong)

/- THE SECOND FORM. 'bulk': how many values and letters a reading holds, each counted each time it is reached (what is shared counts as often as it is met; a slice's spare places count too). A statement '..UptoSaid' is the law's where the arguments, and the package variables that the reading takes, are together of bulk at most 1048576: NARROWER than '..Said'. Prove '..Said' where nothing that the law and all that it calls make is longer than what came in: it says more and counts as full. Else prove '..UptoSaid'. A law counts once. -/
mutual
def uptoBulk {H : Type} : DataW H → Nat
  | .lit (.string bytes) => bytes.length + 1
  | .lit _ => 1
  | .nil => 1
  | .ptr d => uptoBulk d + 1
  | .slice elems spare => uptoBulkAll elems + uptoBulkAll spare + 1
  | .agg parts => uptoBulkAll parts + 1
  | .iface _ d => uptoBulk d + 1
  | .map entries => uptoBulkEntries entries + 1
  | .held _ => 1
def uptoBulkAll {H : Type} : List (DataW H) → Nat
  | [] => 0
  | d :: r => uptoBulk d + uptoBulkAll r
def uptoBulkEntries {H : Type} : List (Lit × DataW H) → Nat
  | [] => 0
  | x :: r => uptoBulkEntry x + uptoBulkEntries r
def uptoBulkEntry {H : Type} : Lit × DataW H → Nat
  | (.string bytes, d) => bytes.length + uptoBulk d + 1
  | (_, d) => uptoBulk d + 1
 end
def uptoSmall : (H : Type) → List (DataW H) → Bool := fun _ ds => decide (uptoBulkAll ds ≤ 1048576)
def OpenSpec.upto (s : _root_.Go.ChangeSpec) : _root_.Go.OpenSpec := { _root_.Go.OpenSpec.ofChange s with cond := some uptoSmall }

/-- 'laws.FnPebblesFit', WHERE WHAT IT READS IS OF BULK AT MOST 1048576: true; the input reads as it did. -/
def fnPebblesFitUptoRow : OpenClaim := { program := "ytmannilblelfjaadoor", sum := "15f020a5b7072bac6afab2b938f88e9a392a952abd5959ab1d49ebea3b887495", func := "loop.example/gamesonstructures/laws.FnPebblesFit", spec := "fnPebblesFit", inPlace := ["internal/bytealg.IndexByteString", "internal/bytealg.IndexString"], unfollowed := true, recurses := true, named := ["unicode/utf8.first", "unicode/utf8.acceptRanges", "internal/bytealg.MaxLen"], apart := false, laid := [("unicode/utf8.acceptRanges", laid_unicode_utf8_acceptRanges), ("unicode/utf8.first", laid_unicode_utf8_first)], narrowed := true }
def FnPebblesFitUptoSaid : Prop := fnPebblesFitUptoRow.holds Tryd.pinned (OpenSpec.upto fnPebblesFitSpec)

/-- 'laws.FnAnswers', WHERE WHAT IT READS IS OF BULK AT MOST 1048576: true; the input reads as it did. -/
def fnAnswersUptoRow : OpenClaim := { program := "ytmannilblelfjaadoor", sum := "15f020a5b7072bac6afab2b938f88e9a392a952abd5959ab1d49ebea3b887495", func := "loop.example/gamesonstructures/laws.FnAnswers", spec := "fnAnswers", inPlace := ["internal/bytealg.IndexByteString", "internal/bytealg.IndexString"], unfollowed := true, recurses := true, named := ["unicode/utf8.first", "unicode/utf8.acceptRanges", "internal/bytealg.MaxLen"], apart := false, laid := [("unicode/utf8.acceptRanges", laid_unicode_utf8_acceptRanges), ("unicode/utf8.first", laid_unicode_utf8_first)], narrowed := true }
def FnAnswersUptoSaid : Prop := fnAnswersUptoRow.holds Tryd.pinned (OpenSpec.upto fnAnswersSpec)

/-- 'laws.FnSecondWins', WHERE WHAT IT READS IS OF BULK AT MOST 1048576: true; the input reads as it did. -/
def fnSecondWinsUptoRow : OpenClaim := { program := "ytmannilblelfjaadoor", sum := "15f020a5b7072bac6afab2b938f88e9a392a952abd5959ab1d49ebea3b887495", func := "loop.example/gamesonstructures/laws.FnSecondWins", spec := "fnSecondWins", inPlace := ["internal/bytealg.IndexByteString", "internal/bytealg.IndexString"], unfollowed := true, recurses := true, named := ["unicode/utf8.first", "unicode/utf8.acceptRanges", "internal/bytealg.MaxLen"], apart := false, laid := [("unicode/utf8.acceptRanges", laid_unicode_utf8_acceptRanges), ("unicode/utf8.first", laid_unicode_utf8_first)], narrowed := true }
def FnSecondWinsUptoSaid : Prop := fnSecondWinsUptoRow.holds Tryd.pinned (OpenSpec.upto fnSecondWinsSpec)

/-- 'laws.FnEquivalence', WHERE WHAT IT READS IS OF BULK AT MOST 1048576: true; the input reads as it did. -/
def fnEquivalenceUptoRow : OpenClaim := { program := "ytmannilblelfjaadoor", sum := "15f020a5b7072bac6afab2b938f88e9a392a952abd5959ab1d49ebea3b887495", func := "loop.example/gamesonstructures/laws.FnEquivalence", spec := "fnEquivalence", inPlace := ["internal/bytealg.IndexByteString", "internal/bytealg.IndexString"], unfollowed := true, recurses := true, named := ["unicode/utf8.first", "unicode/utf8.acceptRanges", "internal/bytealg.MaxLen"], apart := false, laid := [("unicode/utf8.acceptRanges", laid_unicode_utf8_acceptRanges), ("unicode/utf8.first", laid_unicode_utf8_first)], narrowed := true }
def FnEquivalenceUptoSaid : Prop := fnEquivalenceUptoRow.holds Tryd.pinned (OpenSpec.upto fnEquivalenceSpec)

/-- 'laws.FnCountKinds', WHERE WHAT IT READS IS OF BULK AT MOST 1048576: true; the input reads as it did. -/
def fnCountKindsUptoRow : OpenClaim := { program := "ytmannilblelfjaadoor", sum := "15f020a5b7072bac6afab2b938f88e9a392a952abd5959ab1d49ebea3b887495", func := "loop.example/gamesonstructures/laws.FnCountKinds", spec := "fnCountKinds", inPlace := ["internal/bytealg.IndexByteString", "internal/bytealg.IndexString"], unfollowed := true, recurses := true, named := ["unicode/utf8.first", "unicode/utf8.acceptRanges", "internal/bytealg.MaxLen"], apart := false, laid := [("unicode/utf8.acceptRanges", laid_unicode_utf8_acceptRanges), ("unicode/utf8.first", laid_unicode_utf8_first)], narrowed := true }
def FnCountKindsUptoSaid : Prop := fnCountKindsUptoRow.holds Tryd.pinned (OpenSpec.upto fnCountKindsSpec)

/-- 'laws.FnCountClasses', WHERE WHAT IT READS IS OF BULK AT MOST 1048576: true; the input reads as it did. -/
def fnCountClassesUptoRow : OpenClaim := { program := "ytmannilblelfjaadoor", sum := "15f020a5b7072bac6afab2b938f88e9a392a952abd5959ab1d49ebea3b887495", func := "loop.example/gamesonstructures/laws.FnCountClasses", spec := "fnCountClasses", inPlace := ["internal/bytealg.IndexByteString", "internal/bytealg.IndexString"], unfollowed := true, recurses := true, named := ["unicode/utf8.first", "unicode/utf8.acceptRanges", "internal/bytealg.MaxLen"], apart := false, laid := [("unicode/utf8.acceptRanges", laid_unicode_utf8_acceptRanges), ("unicode/utf8.first", laid_unicode_utf8_first)], narrowed := true }
def FnCountClassesUptoSaid : Prop := fnCountClassesUptoRow.holds Tryd.pinned (OpenSpec.upto fnCountClassesSpec)

/-- 'laws.FnClasses', WHERE WHAT IT READS IS OF BULK AT MOST 1048576: true; the input reads as it did. -/
def fnClassesUptoRow : OpenClaim := { program := "ytmannilblelfjaadoor", sum := "15f020a5b7072bac6afab2b938f88e9a392a952abd5959ab1d49ebea3b887495", func := "loop.example/gamesonstructures/laws.FnClasses", spec := "fnClasses", inPlace := ["internal/bytealg.IndexByteString", "internal/bytealg.IndexString"], unfollowed := true, recurses := true, named := ["unicode/utf8.first", "unicode/utf8.acceptRanges", "internal/bytealg.MaxLen"], apart := false, laid := [("unicode/utf8.acceptRanges", laid_unicode_utf8_acceptRanges), ("unicode/utf8.first", laid_unicode_utf8_first)], narrowed := true }
def FnClassesUptoSaid : Prop := fnClassesUptoRow.holds Tryd.pinned (OpenSpec.upto fnClassesSpec)

/-- 'laws.FnSecondReply', WHERE WHAT IT READS IS OF BULK AT MOST 1048576: true; the input reads as it did. -/
def fnSecondReplyUptoRow : OpenClaim := { program := "ytmannilblelfjaadoor", sum := "15f020a5b7072bac6afab2b938f88e9a392a952abd5959ab1d49ebea3b887495", func := "loop.example/gamesonstructures/laws.FnSecondReply", spec := "fnSecondReply", inPlace := ["internal/bytealg.IndexByteString", "internal/bytealg.IndexString"], unfollowed := true, recurses := true, named := ["unicode/utf8.first", "unicode/utf8.acceptRanges", "internal/bytealg.MaxLen"], apart := false, laid := [("unicode/utf8.acceptRanges", laid_unicode_utf8_acceptRanges), ("unicode/utf8.first", laid_unicode_utf8_first)], narrowed := true }
def FnSecondReplyUptoSaid : Prop := fnSecondReplyUptoRow.holds Tryd.pinned (OpenSpec.upto fnSecondReplySpec)

/-- 'laws.FnFirstMove', WHERE WHAT IT READS IS OF BULK AT MOST 1048576: true; the input reads as it did. -/
def fnFirstMoveUptoRow : OpenClaim := { program := "ytmannilblelfjaadoor", sum := "15f020a5b7072bac6afab2b938f88e9a392a952abd5959ab1d49ebea3b887495", func := "loop.example/gamesonstructures/laws.FnFirstMove", spec := "fnFirstMove", inPlace := ["internal/bytealg.IndexByteString", "internal/bytealg.IndexString"], unfollowed := true, recurses := true, named := ["unicode/utf8.first", "unicode/utf8.acceptRanges", "internal/bytealg.MaxLen"], apart := false, laid := [("unicode/utf8.acceptRanges", laid_unicode_utf8_acceptRanges), ("unicode/utf8.first", laid_unicode_utf8_first)], narrowed := true }
def FnFirstMoveUptoSaid : Prop := fnFirstMoveUptoRow.holds Tryd.pinned (OpenSpec.upto fnFirstMoveSpec)

/-- 'laws.FnWonRounds', WHERE WHAT IT READS IS OF BULK AT MOST 1048576: true; the input reads as it did. -/
def fnWonRoundsUptoRow : OpenClaim := { program := "ytmannilblelfjaadoor", sum := "15f020a5b7072bac6afab2b938f88e9a392a952abd5959ab1d49ebea3b887495", func := "loop.example/gamesonstructures/laws.FnWonRounds", spec := "fnWonRounds", inPlace := ["internal/bytealg.IndexByteString", "internal/bytealg.IndexString"], unfollowed := true, recurses := true, named := ["unicode/utf8.first", "unicode/utf8.acceptRanges", "internal/bytealg.MaxLen"], apart := false, laid := [("unicode/utf8.acceptRanges", laid_unicode_utf8_acceptRanges), ("unicode/utf8.first", laid_unicode_utf8_first)], narrowed := true }
def FnWonRoundsUptoSaid : Prop := fnWonRoundsUptoRow.holds Tryd.pinned (OpenSpec.upto fnWonRoundsSpec)

/-- 'laws.FnExactTurnsToWin', WHERE WHAT IT READS IS OF BULK AT MOST 1048576: true; the input reads as it did. -/
def fnExactTurnsToWinUptoRow : OpenClaim := { program := "ytmannilblelfjaadoor", sum := "15f020a5b7072bac6afab2b938f88e9a392a952abd5959ab1d49ebea3b887495", func := "loop.example/gamesonstructures/laws.FnExactTurnsToWin", spec := "fnExactTurnsToWin", inPlace := ["internal/bytealg.IndexByteString", "internal/bytealg.IndexString"], unfollowed := true, recurses := true, named := ["unicode/utf8.first", "unicode/utf8.acceptRanges", "internal/bytealg.MaxLen"], apart := false, laid := [("unicode/utf8.acceptRanges", laid_unicode_utf8_acceptRanges), ("unicode/utf8.first", laid_unicode_utf8_first)], narrowed := true }
def FnExactTurnsToWinUptoSaid : Prop := fnExactTurnsToWinUptoRow.holds Tryd.pinned (OpenSpec.upto fnExactTurnsToWinSpec)

/-- 'laws.FnExactPebblesWin', WHERE WHAT IT READS IS OF BULK AT MOST 1048576: true; the input reads as it did. -/
def fnExactPebblesWinUptoRow : OpenClaim := { program := "ytmannilblelfjaadoor", sum := "15f020a5b7072bac6afab2b938f88e9a392a952abd5959ab1d49ebea3b887495", func := "loop.example/gamesonstructures/laws.FnExactPebblesWin", spec := "fnExactPebblesWin", inPlace := ["internal/bytealg.IndexByteString", "internal/bytealg.IndexString"], unfollowed := true, recurses := true, named := ["unicode/utf8.first", "unicode/utf8.acceptRanges", "internal/bytealg.MaxLen"], apart := false, laid := [("unicode/utf8.acceptRanges", laid_unicode_utf8_acceptRanges), ("unicode/utf8.first", laid_unicode_utf8_first)], narrowed := true }
def FnExactPebblesWinUptoSaid : Prop := fnExactPebblesWinUptoRow.holds Tryd.pinned (OpenSpec.upto fnExactPebblesWinSpec)

end Rows
end Go.Proofs.YtmannilblelfjaaDoor
