/-
  NARROWER THAN 'FOR EVERY INPUT', by the rows' own cells (each row's printed sentence says how): FnExactCountKinds: laid · FnExactSameRank: laid · FnExactSecondWins: laid · FnExactWonRounds: laid · FnExactCountClasses: laid · FnExactClassesOf: laid · FnExactSecondReply: laid · FnExactFirstMove: laid · FnLongest: laid · FnPebblesFit: laid · FnAnswers: laid · FnSecondWins: laid.
  DERIVED. THE GIVEN ROWS OF THIS SEAT. 12 by the template 'for every input the law returns true; each argument reads behind the call as it read before'; 0 by the template 'total and deterministic' (their statements: YtcanofailfbllaaDoorTotals.lean).
  GIVEN WITH THE SEED: the statements are not yours to turn. If you find one false, say at which input.
  Laid BY PROGRAM, IN A SANDBOX (cutbox-rows.mjs): the forced cells as the released guide's own fill.sh prints them over the translation 74bae9112e62e2d6… (all of the seat's roots in one cut). By AI agents, Wed Nov 11 2026. No macro, syntax, notation, axiom, sorry.
-/
import Derived.Test.YtcanofailfbllaaDoorChecked
import GoSem.PinnedTables
import GoSem.Claim
import GoSem.ClaimJoined
import GoSem.ClaimMapViews
import Derived.JoinedTies
import Derived.KernelRfl
namespace Go.Proofs.YtcanofailfbllaaDoor
/- THE CELL 'sum', in the pinned program and in every row, IS THE sha256 OF THE DUMP (.gsa) THAT YtcanofailfbllaaDoorProg.lean LOADS. Nothing in Lean hashes anything: it is a label: what it is worth is what the hold of that sum in a sandbox is worth. -/
noncomputable def Tryd.pinned : Pinned := { name := "ytcanofailfbllaadoor", sum := "74bae9112e62e2d6bbbd00d77d85a28cbe9195b98f87a0707173ead4e53a608d", checked := Tryd.checked }
namespace Rows
def none {H : Type} : Left H := { results := [], args := [] }

/- WHAT THE LISTED PACKAGE-LEVEL VARIABLES READ AS WHEN THE CALL BEGINS. Each datum BY PROGRAM (the guide's laid-datum.mjs) off the statement by which the dump's own 'gosem.cut.vars' lays the variable. In a bare row this is a premise. The card (YtcanofailfbllaaDoorCards.lean) ties it to the program's text. -/
def laid_unicode_utf8_acceptRanges {H : Type} : DataW H := .agg [.agg [.lit (.int .u8 128), .lit (.int .u8 191)], .agg [.lit (.int .u8 160), .lit (.int .u8 191)], .agg [.lit (.int .u8 128), .lit (.int .u8 159)], .agg [.lit (.int .u8 144), .lit (.int .u8 191)], .agg [.lit (.int .u8 128), .lit (.int .u8 143)], .agg [.lit (.int .u8 0), .lit (.int .u8 0)], .agg [.lit (.int .u8 0), .lit (.int .u8 0)], .agg [.lit (.int .u8 0), .lit (.int .u8 0)], .agg [.lit (.int .u8 0), .lit (.int .u8 0)], .agg [.lit (.int .u8 0), .lit (.int .u8 0)], .agg [.lit (.int .u8 0), .lit (.int .u8 0)], .agg [.lit (.int .u8 0), .lit (.int .u8 0)], .agg [.lit (.int .u8 0), .lit (.int .u8 0)], .agg [.lit (.int .u8 0), .lit (.int .u8 0)], .agg [.lit (.int .u8 0), .lit (.int .u8 0)], .agg [.lit (.int .u8 0), .lit (.int .u8 0)]]
/-- One of Go's own tables, pinned by name: the form's constant. -/
def laid_unicode_utf8_first : DataW Unit := Go.Pinned.utf8First

/-- 'laws.FnExactCountKinds': WHATEVER THE INPUT: true; the input reads as it did. -/
def fnExactCountKindsSpec : ChangeSpec := { name := "fnExactCountKinds", fn := fun _ => fun
  | [d1, d2] => { results := [.lit (.bool true)], args := [d1, d2] }
  | _ => none }
def fnExactCountKindsRow : OpenClaim := { program := "ytcanofailfbllaadoor", sum := "74bae9112e62e2d6bbbd00d77d85a28cbe9195b98f87a0707173ead4e53a608d", func := "loop.example/gamesonstructures/laws.FnExactCountKinds", spec := "fnExactCountKinds", inPlace := ["internal/bytealg.IndexByteString", "internal/bytealg.IndexString"], unfollowed := true, recurses := true, named := ["unicode/utf8.first", "unicode/utf8.acceptRanges", "internal/bytealg.MaxLen"], apart := false, laid := [("unicode/utf8.acceptRanges", laid_unicode_utf8_acceptRanges), ("unicode/utf8.first", laid_unicode_utf8_first)] }
def FnExactCountKindsSaid : Prop := fnExactCountKindsRow.holds Tryd.pinned (OpenSpec.ofChange fnExactCountKindsSpec)

/-- ITS FALSE NEIGHBOUR: 'it returns false'. Refute it at one input. -/
def fnExactCountKindsWrong : ChangeSpec := { name := "fnExactCountKinds", fn := fun _ => fun
  | [d1, d2] => { results := [.lit (.bool false)], args := [d1, d2] }
  | _ => none }
def FnExactCountKindsWrongFalsely : Prop := fnExactCountKindsRow.holds Tryd.pinned (OpenSpec.ofChange fnExactCountKindsWrong)

/-- 'laws.FnExactSameRank': WHATEVER THE INPUT: true; the input reads as it did. -/
def fnExactSameRankSpec : ChangeSpec := { name := "fnExactSameRank", fn := fun _ => fun
  | [d1, d2, d3] => { results := [.lit (.bool true)], args := [d1, d2, d3] }
  | _ => none }
def fnExactSameRankRow : OpenClaim := { program := "ytcanofailfbllaadoor", sum := "74bae9112e62e2d6bbbd00d77d85a28cbe9195b98f87a0707173ead4e53a608d", func := "loop.example/gamesonstructures/laws.FnExactSameRank", spec := "fnExactSameRank", inPlace := ["internal/bytealg.IndexByteString", "internal/bytealg.IndexString"], unfollowed := true, recurses := true, named := ["unicode/utf8.first", "unicode/utf8.acceptRanges", "internal/bytealg.MaxLen"], apart := false, laid := [("unicode/utf8.acceptRanges", laid_unicode_utf8_acceptRanges), ("unicode/utf8.first", laid_unicode_utf8_first)] }
def FnExactSameRankSaid : Prop := fnExactSameRankRow.holds Tryd.pinned (OpenSpec.ofChange fnExactSameRankSpec)

/-- ITS FALSE NEIGHBOUR: 'it returns false'. Refute it at one input. -/
def fnExactSameRankWrong : ChangeSpec := { name := "fnExactSameRank", fn := fun _ => fun
  | [d1, d2, d3] => { results := [.lit (.bool false)], args := [d1, d2, d3] }
  | _ => none }
def FnExactSameRankWrongFalsely : Prop := fnExactSameRankRow.holds Tryd.pinned (OpenSpec.ofChange fnExactSameRankWrong)

/-- 'laws.FnExactSecondWins': WHATEVER THE INPUT: true; the input reads as it did. -/
def fnExactSecondWinsSpec : ChangeSpec := { name := "fnExactSecondWins", fn := fun _ => fun
  | [d1, d2, d3, d4, d5] => { results := [.lit (.bool true)], args := [d1, d2, d3, d4, d5] }
  | _ => none }
def fnExactSecondWinsRow : OpenClaim := { program := "ytcanofailfbllaadoor", sum := "74bae9112e62e2d6bbbd00d77d85a28cbe9195b98f87a0707173ead4e53a608d", func := "loop.example/gamesonstructures/laws.FnExactSecondWins", spec := "fnExactSecondWins", inPlace := ["internal/bytealg.IndexByteString", "internal/bytealg.IndexString"], unfollowed := true, recurses := true, named := ["unicode/utf8.first", "unicode/utf8.acceptRanges", "internal/bytealg.MaxLen"], apart := false, laid := [("unicode/utf8.acceptRanges", laid_unicode_utf8_acceptRanges), ("unicode/utf8.first", laid_unicode_utf8_first)] }
def FnExactSecondWinsSaid : Prop := fnExactSecondWinsRow.holds Tryd.pinned (OpenSpec.ofChange fnExactSecondWinsSpec)

/-- ITS FALSE NEIGHBOUR: 'it returns false'. Refute it at one input. -/
def fnExactSecondWinsWrong : ChangeSpec := { name := "fnExactSecondWins", fn := fun _ => fun
  | [d1, d2, d3, d4, d5] => { results := [.lit (.bool false)], args := [d1, d2, d3, d4, d5] }
  | _ => none }
def FnExactSecondWinsWrongFalsely : Prop := fnExactSecondWinsRow.holds Tryd.pinned (OpenSpec.ofChange fnExactSecondWinsWrong)

/-- 'laws.FnExactWonRounds': WHATEVER THE INPUT: true; the input reads as it did. -/
def fnExactWonRoundsSpec : ChangeSpec := { name := "fnExactWonRounds", fn := fun _ => fun
  | [d1, d2, d3, d4] => { results := [.lit (.bool true)], args := [d1, d2, d3, d4] }
  | _ => none }
def fnExactWonRoundsRow : OpenClaim := { program := "ytcanofailfbllaadoor", sum := "74bae9112e62e2d6bbbd00d77d85a28cbe9195b98f87a0707173ead4e53a608d", func := "loop.example/gamesonstructures/laws.FnExactWonRounds", spec := "fnExactWonRounds", inPlace := ["internal/bytealg.IndexByteString", "internal/bytealg.IndexString"], unfollowed := true, recurses := true, named := ["unicode/utf8.first", "unicode/utf8.acceptRanges", "internal/bytealg.MaxLen"], apart := false, laid := [("unicode/utf8.acceptRanges", laid_unicode_utf8_acceptRanges), ("unicode/utf8.first", laid_unicode_utf8_first)] }
def FnExactWonRoundsSaid : Prop := fnExactWonRoundsRow.holds Tryd.pinned (OpenSpec.ofChange fnExactWonRoundsSpec)

/-- ITS FALSE NEIGHBOUR: 'it returns false'. Refute it at one input. -/
def fnExactWonRoundsWrong : ChangeSpec := { name := "fnExactWonRounds", fn := fun _ => fun
  | [d1, d2, d3, d4] => { results := [.lit (.bool false)], args := [d1, d2, d3, d4] }
  | _ => none }
def FnExactWonRoundsWrongFalsely : Prop := fnExactWonRoundsRow.holds Tryd.pinned (OpenSpec.ofChange fnExactWonRoundsWrong)

/-- 'laws.FnExactCountClasses': WHATEVER THE INPUT: true; the input reads as it did. -/
def fnExactCountClassesSpec : ChangeSpec := { name := "fnExactCountClasses", fn := fun _ => fun
  | [d1, d2, d3] => { results := [.lit (.bool true)], args := [d1, d2, d3] }
  | _ => none }
def fnExactCountClassesRow : OpenClaim := { program := "ytcanofailfbllaadoor", sum := "74bae9112e62e2d6bbbd00d77d85a28cbe9195b98f87a0707173ead4e53a608d", func := "loop.example/gamesonstructures/laws.FnExactCountClasses", spec := "fnExactCountClasses", inPlace := ["internal/bytealg.IndexByteString", "internal/bytealg.IndexString"], unfollowed := true, recurses := true, named := ["unicode/utf8.first", "unicode/utf8.acceptRanges", "internal/bytealg.MaxLen"], apart := false, laid := [("unicode/utf8.acceptRanges", laid_unicode_utf8_acceptRanges), ("unicode/utf8.first", laid_unicode_utf8_first)] }
def FnExactCountClassesSaid : Prop := fnExactCountClassesRow.holds Tryd.pinned (OpenSpec.ofChange fnExactCountClassesSpec)

/-- ITS FALSE NEIGHBOUR: 'it returns false'. Refute it at one input. -/
def fnExactCountClassesWrong : ChangeSpec := { name := "fnExactCountClasses", fn := fun _ => fun
  | [d1, d2, d3] => { results := [.lit (.bool false)], args := [d1, d2, d3] }
  | _ => none }
def FnExactCountClassesWrongFalsely : Prop := fnExactCountClassesRow.holds Tryd.pinned (OpenSpec.ofChange fnExactCountClassesWrong)

/-- 'laws.FnExactClassesOf': WHATEVER THE INPUT: true; the input reads as it did. -/
def fnExactClassesOfSpec : ChangeSpec := { name := "fnExactClassesOf", fn := fun _ => fun
  | [d1, d2] => { results := [.lit (.bool true)], args := [d1, d2] }
  | _ => none }
def fnExactClassesOfRow : OpenClaim := { program := "ytcanofailfbllaadoor", sum := "74bae9112e62e2d6bbbd00d77d85a28cbe9195b98f87a0707173ead4e53a608d", func := "loop.example/gamesonstructures/laws.FnExactClassesOf", spec := "fnExactClassesOf", inPlace := ["internal/bytealg.IndexByteString", "internal/bytealg.IndexString"], unfollowed := true, recurses := true, named := ["unicode/utf8.first", "unicode/utf8.acceptRanges", "internal/bytealg.MaxLen"], apart := false, laid := [("unicode/utf8.acceptRanges", laid_unicode_utf8_acceptRanges), ("unicode/utf8.first", laid_unicode_utf8_first)] }
def FnExactClassesOfSaid : Prop := fnExactClassesOfRow.holds Tryd.pinned (OpenSpec.ofChange fnExactClassesOfSpec)

/-- ITS FALSE NEIGHBOUR: 'it returns false'. Refute it at one input. -/
def fnExactClassesOfWrong : ChangeSpec := { name := "fnExactClassesOf", fn := fun _ => fun
  | [d1, d2] => { results := [.lit (.bool false)], args := [d1, d2] }
  | _ => none }
def FnExactClassesOfWrongFalsely : Prop := fnExactClassesOfRow.holds Tryd.pinned (OpenSpec.ofChange fnExactClassesOfWrong)

/-- 'laws.FnExactSecondReply': WHATEVER THE INPUT: true; the input reads as it did. -/
def fnExactSecondReplySpec : ChangeSpec := { name := "fnExactSecondReply", fn := fun _ => fun
  | [d1, d2, d3, d4, d5, d6, d7] => { results := [.lit (.bool true)], args := [d1, d2, d3, d4, d5, d6, d7] }
  | _ => none }
def fnExactSecondReplyRow : OpenClaim := { program := "ytcanofailfbllaadoor", sum := "74bae9112e62e2d6bbbd00d77d85a28cbe9195b98f87a0707173ead4e53a608d", func := "loop.example/gamesonstructures/laws.FnExactSecondReply", spec := "fnExactSecondReply", inPlace := ["internal/bytealg.IndexByteString", "internal/bytealg.IndexString"], unfollowed := true, recurses := true, named := ["unicode/utf8.first", "unicode/utf8.acceptRanges", "internal/bytealg.MaxLen"], apart := false, laid := [("unicode/utf8.acceptRanges", laid_unicode_utf8_acceptRanges), ("unicode/utf8.first", laid_unicode_utf8_first)] }
def FnExactSecondReplySaid : Prop := fnExactSecondReplyRow.holds Tryd.pinned (OpenSpec.ofChange fnExactSecondReplySpec)

/-- ITS FALSE NEIGHBOUR: 'it returns false'. Refute it at one input. -/
def fnExactSecondReplyWrong : ChangeSpec := { name := "fnExactSecondReply", fn := fun _ => fun
  | [d1, d2, d3, d4, d5, d6, d7] => { results := [.lit (.bool false)], args := [d1, d2, d3, d4, d5, d6, d7] }
  | _ => none }
def FnExactSecondReplyWrongFalsely : Prop := fnExactSecondReplyRow.holds Tryd.pinned (OpenSpec.ofChange fnExactSecondReplyWrong)

/-- 'laws.FnExactFirstMove': WHATEVER THE INPUT: true; the input reads as it did. -/
def fnExactFirstMoveSpec : ChangeSpec := { name := "fnExactFirstMove", fn := fun _ => fun
  | [d1, d2, d3, d4, d5] => { results := [.lit (.bool true)], args := [d1, d2, d3, d4, d5] }
  | _ => none }
def fnExactFirstMoveRow : OpenClaim := { program := "ytcanofailfbllaadoor", sum := "74bae9112e62e2d6bbbd00d77d85a28cbe9195b98f87a0707173ead4e53a608d", func := "loop.example/gamesonstructures/laws.FnExactFirstMove", spec := "fnExactFirstMove", inPlace := ["internal/bytealg.IndexByteString", "internal/bytealg.IndexString"], unfollowed := true, recurses := true, named := ["unicode/utf8.first", "unicode/utf8.acceptRanges", "internal/bytealg.MaxLen"], apart := false, laid := [("unicode/utf8.acceptRanges", laid_unicode_utf8_acceptRanges), ("unicode/utf8.first", laid_unicode_utf8_first)] }
def FnExactFirstMoveSaid : Prop := fnExactFirstMoveRow.holds Tryd.pinned (OpenSpec.ofChange fnExactFirstMoveSpec)

/-- ITS FALSE NEIGHBOUR: 'it returns false'. Refute it at one input. -/
def fnExactFirstMoveWrong : ChangeSpec := { name := "fnExactFirstMove", fn := fun _ => fun
  | [d1, d2, d3, d4, d5] => { results := [.lit (.bool false)], args := [d1, d2, d3, d4, d5] }
  | _ => none }
def FnExactFirstMoveWrongFalsely : Prop := fnExactFirstMoveRow.holds Tryd.pinned (OpenSpec.ofChange fnExactFirstMoveWrong)

/-- 'laws.FnLongest': WHATEVER THE INPUT: true; the input reads as it did. -/
def fnLongestSpec : ChangeSpec := { name := "fnLongest", fn := fun _ => fun
  | [d] => { results := [.lit (.bool true)], args := [d] }
  | _ => none }
def fnLongestRow : OpenClaim := { program := "ytcanofailfbllaadoor", sum := "74bae9112e62e2d6bbbd00d77d85a28cbe9195b98f87a0707173ead4e53a608d", func := "loop.example/gamesonstructures/laws.FnLongest", spec := "fnLongest", inPlace := ["internal/bytealg.IndexByteString", "internal/bytealg.IndexString"], unfollowed := true, recurses := true, named := ["unicode/utf8.first", "unicode/utf8.acceptRanges", "internal/bytealg.MaxLen"], apart := false, laid := [("unicode/utf8.acceptRanges", laid_unicode_utf8_acceptRanges), ("unicode/utf8.first", laid_unicode_utf8_first)] }
def FnLongestSaid : Prop := fnLongestRow.holds Tryd.pinned (OpenSpec.ofChange fnLongestSpec)

/-- ITS FALSE NEIGHBOUR: 'it returns false'. Refute it at one input. -/
def fnLongestWrong : ChangeSpec := { name := "fnLongest", fn := fun _ => fun
  | [d] => { results := [.lit (.bool false)], args := [d] }
  | _ => none }
def FnLongestWrongFalsely : Prop := fnLongestRow.holds Tryd.pinned (OpenSpec.ofChange fnLongestWrong)

/-- 'laws.FnPebblesFit': WHATEVER THE INPUT: true; the input reads as it did. -/
def fnPebblesFitSpec : ChangeSpec := { name := "fnPebblesFit", fn := fun _ => fun
  | [d] => { results := [.lit (.bool true)], args := [d] }
  | _ => none }
def fnPebblesFitRow : OpenClaim := { program := "ytcanofailfbllaadoor", sum := "74bae9112e62e2d6bbbd00d77d85a28cbe9195b98f87a0707173ead4e53a608d", func := "loop.example/gamesonstructures/laws.FnPebblesFit", spec := "fnPebblesFit", inPlace := ["internal/bytealg.IndexByteString", "internal/bytealg.IndexString"], unfollowed := true, recurses := true, named := ["unicode/utf8.first", "unicode/utf8.acceptRanges", "internal/bytealg.MaxLen"], apart := false, laid := [("unicode/utf8.acceptRanges", laid_unicode_utf8_acceptRanges), ("unicode/utf8.first", laid_unicode_utf8_first)] }
def FnPebblesFitSaid : Prop := fnPebblesFitRow.holds Tryd.pinned (OpenSpec.ofChange fnPebblesFitSpec)

/-- ITS FALSE NEIGHBOUR: 'it returns false'. Refute it at one input. -/
def fnPebblesFitWrong : ChangeSpec := { name := "fnPebblesFit", fn := fun _ => fun
  | [d] => { results := [.lit (.bool false)], args := [d] }
  | _ => none }
def FnPebblesFitWrongFalsely : Prop := fnPebblesFitRow.holds Tryd.pinned (OpenSpec.ofChange fnPebblesFitWrong)

/-- 'laws.FnAnswers': WHATEVER THE INPUT: true; the input reads as it did. -/
def fnAnswersSpec : ChangeSpec := { name := "fnAnswers", fn := fun _ => fun
  | [d] => { results := [.lit (.bool true)], args := [d] }
  | _ => none }
def fnAnswersRow : OpenClaim := { program := "ytcanofailfbllaadoor", sum := "74bae9112e62e2d6bbbd00d77d85a28cbe9195b98f87a0707173ead4e53a608d", func := "loop.example/gamesonstructures/laws.FnAnswers", spec := "fnAnswers", inPlace := ["internal/bytealg.IndexByteString", "internal/bytealg.IndexString"], unfollowed := true, recurses := true, named := ["unicode/utf8.first", "unicode/utf8.acceptRanges", "internal/bytealg.MaxLen"], apart := false, laid := [("unicode/utf8.acceptRanges", laid_unicode_utf8_acceptRanges), ("unicode/utf8.first", laid_unicode_utf8_first)] }
def FnAnswersSaid : Prop := fnAnswersRow.holds Tryd.pinned (OpenSpec.ofChange fnAnswersSpec)

/-- ITS FALSE NEIGHBOUR: 'it returns false'. Refute it at one input. -/
def fnAnswersWrong : ChangeSpec := { name := "fnAnswers", fn := fun _ => fun
  | [d] => { results := [.lit (.bool false)], args := [d] }
  | _ => none }
def FnAnswersWrongFalsely : Prop := fnAnswersRow.holds Tryd.pinned (OpenSpec.ofChange fnAnswersWrong)

/-- 'laws.FnSecondWins': WHATEVER THE INPUT: true; the input reads as it did. -/
def fnSecondWinsSpec : ChangeSpec := { name := "fnSecondWins", fn := fun _ => fun
  | [d] => { results := [.lit (.bool true)], args := [d] }
  | _ => none }
def fnSecondWinsRow : OpenClaim := { program := "ytcanofailfbllaadoor", sum := "74bae9112e62e2d6bbbd00d77d85a28cbe9195b98f87a0707173ead4e53a608d", func := "loop.example/gamesonstructures/laws.FnSecondWins", spec := "fnSecondWins", inPlace := ["internal/bytealg.IndexByteString", "internal/bytealg.IndexString"], unfollowed := true, recurses := true, named := ["unicode/utf8.first", "unicode/utf8.acceptRanges", "internal/bytealg.MaxLen"], apart := false, laid := [("unicode/utf8.acceptRanges", laid_unicode_utf8_acceptRanges), ("unicode/utf8.first", laid_unicode_utf8_first)] }
def FnSecondWinsSaid : Prop := fnSecondWinsRow.holds Tryd.pinned (OpenSpec.ofChange fnSecondWinsSpec)

/-- ITS FALSE NEIGHBOUR: 'it returns false'. Refute it at one input. -/
def fnSecondWinsWrong : ChangeSpec := { name := "fnSecondWins", fn := fun _ => fun
  | [d] => { results := [.lit (.bool false)], args := [d] }
  | _ => none }
def FnSecondWinsWrongFalsely : Prop := fnSecondWinsRow.holds Tryd.pinned (OpenSpec.ofChange fnSecondWinsWrong)

/- THE SECOND FORM. 'bulk': how many values and letters a reading holds, each counted each time it is reached (what is shared counts as often as it is met; a slice's spare places count too). A statement '..UptoSaid' is the law's where the arguments, and the package variables that the reading takes, are together of bulk at most 1048576: NARROWER than '..Said'. Prove '..Said' where nothing that the law and all that it calls make is longer than what came in: it says more and counts as full. Else prove '..UptoSaid'. A law counts once. -/
mutual
def uptoBulk {H : Type} : DataW H → Nat
  | .lit (.string bytes) => bytes.length + 1
  | .lit _ => 1
  | .nil => 1
  | .ptr d => uptoBulk d + 1
  | .slice elems spare => uptoBulkAll elems + uptoBulkAll spare + 1
  | .agg parts => uptoBulkAll parts + 1
  | .iface _ d => uptoBulk d + 1
  | .map entries => uptoBulkEntries entries + 1
  | .held _ => 1
def uptoBulkAll {H : Type} : List (DataW H) → Nat
  | [] => 0
  | d :: r => uptoBulk d + uptoBulkAll r
def uptoBulkEntries {H : Type} : List (Lit × DataW H) → Nat
  | [] => 0
  | x :: r => uptoBulkEntry x + uptoBulkEntries r
def uptoBulkEntry {H : Type} : Lit × DataW H → Nat
  | (.string bytes, d) => bytes.length + uptoBulk d + 1
  | (_, d) => uptoBulk d + 1
 end
def uptoSmall : (H : Type) → List (DataW H) → Bool := fun _ ds => decide (uptoBulkAll ds ≤ 1048576)
def OpenSpec.upto (s : _root_.Go.ChangeSpec) : _root_.Go.OpenSpec := { _root_.Go.OpenSpec.ofChange s with cond := some uptoSmall }

/-- 'laws.FnExactCountKinds', WHERE WHAT IT READS IS OF BULK AT MOST 1048576: true; the input reads as it did. -/
def fnExactCountKindsUptoRow : OpenClaim := { program := "ytcanofailfbllaadoor", sum := "74bae9112e62e2d6bbbd00d77d85a28cbe9195b98f87a0707173ead4e53a608d", func := "loop.example/gamesonstructures/laws.FnExactCountKinds", spec := "fnExactCountKinds", inPlace := ["internal/bytealg.IndexByteString", "internal/bytealg.IndexString"], unfollowed := true, recurses := true, named := ["unicode/utf8.first", "unicode/utf8.acceptRanges", "internal/bytealg.MaxLen"], apart := false, laid := [("unicode/utf8.acceptRanges", laid_unicode_utf8_acceptRanges), ("unicode/utf8.first", laid_unicode_utf8_first)], narrowed := true }
def FnExactCountKindsUptoSaid : Prop := fnExactCountKindsUptoRow.holds Tryd.pinned (OpenSpec.upto fnExactCountKindsSpec)

/-- 'laws.FnExactSameRank', WHERE WHAT IT READS IS OF BULK AT MOST 1048576: true; the input reads as it did. -/
def fnExactSameRankUptoRow : OpenClaim := { program := "ytcanofailfbllaadoor", sum := "74bae9112e62e2d6bbbd00d77d85a28cbe9195b98f87a0707173ead4e53a608d", func := "loop.example/gamesonstructures/laws.FnExactSameRank", spec := "fnExactSameRank", inPlace := ["internal/bytealg.IndexByteString", "internal/bytealg.IndexString"], unfollowed := true, recurses := true, named := ["unicode/utf8.first", "unicode/utf8.acceptRanges", "internal/bytealg.MaxLen"], apart := false, laid := [("unicode/utf8.acceptRanges", laid_unicode_utf8_acceptRanges), ("unicode/utf8.first", laid_unicode_utf8_first)], narrowed := true }
def FnExactSameRankUptoSaid : Prop := fnExactSameRankUptoRow.holds Tryd.pinned (OpenSpec.upto fnExactSameRankSpec)

/-- 'laws.FnExactSecondWins', WHERE WHAT IT READS IS OF BULK AT MOST 1048576: true; the input reads as it did. -/
def fnExactSecondWinsUptoRow : OpenClaim := { program := "ytcanofailfbllaadoor", sum := "74bae9112e62e2d6bbbd00d77d85a28cbe9195b98f87a0707173ead4e53a608d", func := "loop.example/gamesonstructures/laws.FnExactSecondWins", spec := "fnExactSecondWins", inPlace := ["internal/bytealg.IndexByteString", "internal/bytealg.IndexString"], unfollowed := true, recurses := true, named := ["unicode/utf8.first", "unicode/utf8.acceptRanges", "internal/bytealg.MaxLen"], apart := false, laid := [("unicode/utf8.acceptRanges", laid_unicode_utf8_acceptRanges), ("unicode/utf8.first", laid_unicode_utf8_first)], narrowed := true }
def FnExactSecondWinsUptoSaid : Prop := fnExactSecondWinsUptoRow.holds Tryd.pinned (OpenSpec.upto fnExactSecondWinsSpec)

/-- 'laws.FnExactWonRounds', WHERE WHAT IT READS IS OF BULK AT MOST 1048576: true; the input reads as it did. -/
def fnExactWonRoundsUptoRow : OpenClaim := { program := "ytcanofailfbllaadoor", sum := "74bae9112e62e2d6bbbd00d77d85a28cbe9195b98f87a0707173ead4e53a608d", func := "loop.example/gamesonstructures/laws.FnExactWonRounds", spec := "fnExactWonRounds", inPlace := ["internal/bytealg.IndexByteString", "internal/bytealg.IndexString"], unfollowed := true, recurses := true, named := ["unicode/utf8.first", "unicode/utf8.acceptRanges", "internal/bytealg.MaxLen"], apart := false, laid := [("unicode/utf8.acceptRanges", laid_unicode_utf8_acceptRanges), ("unicode/utf8.first", laid_unicode_utf8_first)], narrowed := true }
def FnExactWonRoundsUptoSaid : Prop := fnExactWonRoundsUptoRow.holds Tryd.pinned (OpenSpec.upto fnExactWonRoundsSpec)

/-- 'laws.FnExactCountClasses', WHERE WHAT IT READS IS OF BULK AT MOST 1048576: true; the input reads as it did. -/
def fnExactCountClassesUptoRow : OpenClaim := { program := "ytcanofailfbllaadoor", sum := "74bae9112e62e2d6bbbd00d77d85a28cbe9195b98f87a0707173ead4e53a608d", func := "loop.example/gamesonstructures/laws.FnExactCountClasses", spec := "fnExactCountClasses", inPlace := ["internal/bytealg.IndexByteString", "internal/bytealg.IndexString"], unfollowed := true, recurses := true, named := ["unicode/utf8.first", "unicode/utf8.acceptRanges", "internal/bytealg.MaxLen"], apart := false, laid := [("unicode/utf8.acceptRanges", laid_unicode_utf8_acceptRanges), ("unicode/utf8.first", laid_unicode_utf8_first)], narrowed := true }
def FnExactCountClassesUptoSaid : Prop := fnExactCountClassesUptoRow.holds Tryd.pinned (OpenSpec.upto fnExactCountClassesSpec)

/-- 'laws.FnExactClassesOf', WHERE WHAT IT READS IS OF BULK AT MOST 1048576: true; the input reads as it did. -/
def fnExactClassesOfUptoRow : OpenClaim := { program := "ytcanofailfbllaadoor", sum := "74bae9112e62e2d6bbbd00d77d85a28cbe9195b98f87a0707173ead4e53a608d", func := "loop.example/gamesonstructures/laws.FnExactClassesOf", spec := "fnExactClassesOf", inPlace := ["internal/bytealg.IndexByteString", "internal/bytealg.IndexString"], unfollowed := true, recurses := true, named := ["unicode/utf8.first", "unicode/utf8.acceptRanges", "internal/bytealg.MaxLen"], apart := false, laid := [("unicode/utf8.acceptRanges", laid_unicode_utf8_acceptRanges), ("unicode/utf8.first", laid_unicode_utf8_first)], narrowed := true }
def FnExactClassesOfUptoSaid : Prop := fnExactClassesOfUptoRow.holds Tryd.pinned (OpenSpec.upto fnExactClassesOfSpec)

/-- 'laws.FnExactSecondReply', WHERE WHAT IT READS IS OF BULK AT MOST 1048576: true; the input reads as it did. -/
def fnExactSecondReplyUptoRow : OpenClaim := { program := "ytcanofailfbllaadoor", sum := "74bae9112e62e2d6bbbd00d77d85a28cbe9195b98f87a0707173ead4e53a608d", func := "loop.example/gamesonstructures/laws.FnExactSecondReply", spec := "fnExactSecondReply", inPlace := ["internal/bytealg.IndexByteString", "internal/bytealg.IndexString"], unfollowed := true, recurses := true, named := ["unicode/utf8.first", "unicode/utf8.acceptRanges", "internal/bytealg.MaxLen"], apart := false, laid := [("unicode/utf8.acceptRanges", laid_unicode_utf8_acceptRanges), ("unicode/utf8.first", laid_unicode_utf8_first)], narrowed := true }
def FnExactSecondReplyUptoSaid : Prop := fnExactSecondReplyUptoRow.holds Tryd.pinned (OpenSpec.upto fnExactSecondReplySpec)

/-- 'laws.FnExactFirstMove', WHERE WHAT IT READS IS OF BULK AT MOST 1048576: true; the input reads as it did. -/
def fnExactFirstMoveUptoRow : OpenClaim := { program := "ytcanofailfbllaadoor", sum := "74bae9112e62e2d6bbbd00d77d85a28cbe9195b98f87a0707173ead4e53a608d", func := "loop.example/gamesonstructures/laws.FnExactFirstMove", spec := "fnExactFirstMove", inPlace := ["internal/bytealg.IndexByteString", "internal/bytealg.IndexString"], unfollowed := true, recurses := true, named := ["unicode/utf8.first", "unicode/utf8.acceptRanges", "internal/bytealg.MaxLen"], apart := false, laid := [("unicode/utf8.acceptRanges", laid_unicode_utf8_acceptRanges), ("unicode/utf8.first", laid_unicode_utf8_first)], narrowed := true }
def FnExactFirstMoveUptoSaid : Prop := fnExactFirstMoveUptoRow.holds Tryd.pinned (OpenSpec.upto fnExactFirstMoveSpec)

/-- 'laws.FnLongest', WHERE WHAT IT READS IS OF BULK AT MOST 1048576: true; the input reads as it did. -/
def fnLongestUptoRow : OpenClaim := { program := "ytcanofailfbllaadoor", sum := "74bae9112e62e2d6bbbd00d77d85a28cbe9195b98f87a0707173ead4e53a608d", func := "loop.example/gamesonstructures/laws.FnLongest", spec := "fnLongest", inPlace := ["internal/bytealg.IndexByteString", "internal/bytealg.IndexString"], unfollowed := true, recurses := true, named := ["unicode/utf8.first", "unicode/utf8.acceptRanges", "internal/bytealg.MaxLen"], apart := false, laid := [("unicode/utf8.acceptRanges", laid_unicode_utf8_acceptRanges), ("unicode/utf8.first", laid_unicode_utf8_first)], narrowed := true }
def FnLongestUptoSaid : Prop := fnLongestUptoRow.holds Tryd.pinned (OpenSpec.upto fnLongestSpec)

/-- 'laws.FnPebblesFit', WHERE WHAT IT READS IS OF BULK AT MOST 1048576: true; the input reads as it did. -/
def fnPebblesFitUptoRow : OpenClaim := { program := "ytcanofailfbllaadoor", sum := "74bae9112e62e2d6bbbd00d77d85a28cbe9195b98f87a0707173ead4e53a608d", func := "loop.example/gamesonstructures/laws.FnPebblesFit", spec := "fnPebblesFit", inPlace := ["internal/bytealg.IndexByteString", "internal/bytealg.IndexString"], unfollowed := true, recurses := true, named := ["unicode/utf8.first", "unicode/utf8.acceptRanges", "internal/bytealg.MaxLen"], apart := false, laid := [("unicode/utf8.acceptRanges", laid_unicode_utf8_acceptRanges), ("unicode/utf8.first", laid_unicode_utf8_first)], narrowed := true }
def FnPebblesFitUptoSaid : Prop := fnPebblesFitUptoRow.holds Tryd.pinned (OpenSpec.upto fnPebblesFitSpec)

/-- 'laws.FnAnswers', WHERE WHAT IT READS IS OF BULK AT MOST 1048576: true; the input reads as it did. -/
def fnAnswersUptoRow : OpenClaim := { program := "ytcanofailfbllaadoor", sum := "74bae9112e62e2d6bbbd00d77d85a28cbe9195b98f87a0707173ead4e53a608d", func := "loop.example/gamesonstructures/laws.FnAnswers", spec := "fnAnswers", inPlace := ["internal/bytealg.IndexByteString", "internal/bytealg.IndexString"], unfollowed := true, recurses := true, named := ["unicode/utf8.first", "unicode/utf8.acceptRanges", "internal/bytealg.MaxLen"], apart := false, laid := [("unicode/utf8.acceptRanges", laid_unicode_utf8_acceptRanges), ("unicode/utf8.first", laid_unicode_utf8_first)], narrowed := true }
def FnAnswersUptoSaid : Prop := fnAnswersUptoRow.holds Tryd.pinned (OpenSpec.upto fnAnswersSpec)

/-- 'laws.FnSecondWins', WHERE WHAT IT READS IS OF BULK AT MOST 1048576: true; the input reads as it did. -/
def fnSecondWinsUptoRow : OpenClaim := { program := "ytcanofailfbllaadoor", sum := "74bae9112e62e2d6bbbd00d77d85a28cbe9195b98f87a0707173ead4e53a608d", func := "loop.example/gamesonstructures/laws.FnSecondWins", spec := "fnSecondWins", inPlace := ["internal/bytealg.IndexByteString", "internal/bytealg.IndexString"], unfollowed := true, recurses := true, named := ["unicode/utf8.first", "unicode/utf8.acceptRanges", "internal/bytealg.MaxLen"], apart := false, laid := [("unicode/utf8.acceptRanges", laid_unicode_utf8_acceptRanges), ("unicode/utf8.first", laid_unicode_utf8_first)], narrowed := true }
def FnSecondWinsUptoSaid : Prop := fnSecondWinsUptoRow.holds Tryd.pinned (OpenSpec.upto fnSecondWinsSpec)

end Rows
end Go.Proofs.YtcanofailfbllaaDoor
