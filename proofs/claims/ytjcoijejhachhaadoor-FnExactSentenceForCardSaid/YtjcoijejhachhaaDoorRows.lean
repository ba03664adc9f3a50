/-
  NARROWER THAN 'FOR EVERY INPUT', by the rows' own cells (each row's printed sentence says how): FnExactTypeFormula: laid · FnExactTellApart: laid · FnExactSentenceFor: laid · FnExactPebblesWin: laid · FnExactTurnsToWin: laid · FnExactPebblesForever: laid · FnExactPebbleClasses: laid · FnPebblesWin: laid · FnForever: laid · FnTurnsToWin: laid · FnPebblesRounds: laid.
  DERIVED. THE GIVEN ROWS OF THIS SEAT. 11 by the template 'for every input the law returns true; each argument reads behind the call as it read before'; 0 by the template 'total and deterministic' (their statements: YtjcoijejhachhaaDoorTotals.lean).
  GIVEN WITH THE SEED: the statements are not yours to turn. If you find one false, say at which input.
  Laid BY PROGRAM, IN A SANDBOX (cutbox-rows.mjs): the forced cells as the released guide's own fill.sh prints them over the translation 7a1f2cac9b957dd1… (all of the seat's roots in one cut). By AI agents, Wed Nov 11 2026. No macro, syntax, notation, axiom, sorry.
-/
import Derived.Test.YtjcoijejhachhaaDoorChecked
import GoSem.PinnedTables
import GoSem.Claim
import GoSem.ClaimJoined
import GoSem.ClaimMapViews
import Derived.JoinedTies
import Derived.KernelRfl
namespace Go.Proofs.YtjcoijejhachhaaDoor
/- THE CELL 'sum', in the pinned program and in every row, IS THE sha256 OF THE DUMP (.gsa) THAT YtjcoijejhachhaaDoorProg.lean LOADS. Nothing in Lean hashes anything: it is a label: what it is worth is what the hold of that sum in a sandbox is worth. -/
noncomputable def Tryd.pinned : Pinned := { name := "ytjcoijejhachhaadoor", sum := "7a1f2cac9b957dd1335168ac3a61da6d9920c10e4992515c98a90c74349eeb2f", checked := Tryd.checked }
namespace Rows
def none {H : Type} : Left H := { results := [], args := [] }

/- WHAT THE LISTED PACKAGE-LEVEL VARIABLES READ AS WHEN THE CALL BEGINS. Each datum BY PROGRAM (the guide's laid-datum.mjs) off the statement by which the dump's own 'gosem.cut.vars' lays the variable. In a bare row this is a premise. The card (YtjcoijejhachhaaDoorCards.lean) ties it to the program's text. -/
def laid_unicode_utf8_acceptRanges {H : Type} : DataW H := .agg [.agg [.lit (.int .u8 128), .lit (.int .u8 191)], .agg [.lit (.int .u8 160), .lit (.int .u8 191)], .agg [.lit (.int .u8 128), .lit (.int .u8 159)], .agg [.lit (.int .u8 144), .lit (.int .u8 191)], .agg [.lit (.int .u8 128), .lit (.int .u8 143)], .agg [.lit (.int .u8 0), .lit (.int .u8 0)], .agg [.lit (.int .u8 0), .lit (.int .u8 0)], .agg [.lit (.int .u8 0), .lit (.int .u8 0)], .agg [.lit (.int .u8 0), .lit (.int .u8 0)], .agg [.lit (.int .u8 0), .lit (.int .u8 0)], .agg [.lit (.int .u8 0), .lit (.int .u8 0)], .agg [.lit (.int .u8 0), .lit (.int .u8 0)], .agg [.lit (.int .u8 0), .lit (.int .u8 0)], .agg [.lit (.int .u8 0), .lit (.int .u8 0)], .agg [.lit (.int .u8 0), .lit (.int .u8 0)], .agg [.lit (.int .u8 0), .lit (.int .u8 0)]]
/-- One of Go's own tables, pinned by name: the form's constant. -/
def laid_unicode_utf8_first : DataW Unit := Go.Pinned.utf8First

/-- 'laws.FnExactTypeFormula': WHATEVER THE INPUT: true; the input reads as it did. -/
def fnExactTypeFormulaSpec : ChangeSpec := { name := "fnExactTypeFormula", fn := fun _ => fun
  | [d1, d2, d3] => { results := [.lit (.bool true)], args := [d1, d2, d3] }
  | _ => none }
def fnExactTypeFormulaRow : OpenClaim := { program := "ytjcoijejhachhaadoor", sum := "7a1f2cac9b957dd1335168ac3a61da6d9920c10e4992515c98a90c74349eeb2f", func := "loop.example/gamesonstructures/laws.FnExactTypeFormula", spec := "fnExactTypeFormula", inPlace := ["internal/bytealg.IndexByteString", "internal/bytealg.IndexString"], unfollowed := true, recurses := true, named := ["unicode/utf8.first", "unicode/utf8.acceptRanges", "internal/bytealg.MaxLen"], apart := false, laid := [("unicode/utf8.acceptRanges", laid_unicode_utf8_acceptRanges), ("unicode/utf8.first", laid_unicode_utf8_first)] }
def FnExactTypeFormulaSaid : Prop := fnExactTypeFormulaRow.holds Tryd.pinned (OpenSpec.ofChange fnExactTypeFormulaSpec)

/-- ITS FALSE NEIGHBOUR: 'it returns false'. Refute it at one input. -/
def fnExactTypeFormulaWrong : ChangeSpec := { name := "fnExactTypeFormula", fn := fun _ => fun
  | [d1, d2, d3] => { results := [.lit (.bool false)], args := [d1, d2, d3] }
  | _ => none }
def FnExactTypeFormulaWrongFalsely : Prop := fnExactTypeFormulaRow.holds Tryd.pinned (OpenSpec.ofChange fnExactTypeFormulaWrong)

/-- 'laws.FnExactTellApart': WHATEVER THE INPUT: true; the input reads as it did. -/
def fnExactTellApartSpec : ChangeSpec := { name := "fnExactTellApart", fn := fun _ => fun
  | [d1, d2, d3, d4, d5] => { results := [.lit (.bool true)], args := [d1, d2, d3, d4, d5] }
  | _ => none }
def fnExactTellApartRow : OpenClaim := { program := "ytjcoijejhachhaadoor", sum := "7a1f2cac9b957dd1335168ac3a61da6d9920c10e4992515c98a90c74349eeb2f", func := "loop.example/gamesonstructures/laws.FnExactTellApart", spec := "fnExactTellApart", inPlace := ["internal/bytealg.IndexByteString", "internal/bytealg.IndexString"], unfollowed := true, recurses := true, named := ["unicode/utf8.first", "unicode/utf8.acceptRanges", "internal/bytealg.MaxLen"], apart := false, laid := [("unicode/utf8.acceptRanges", laid_unicode_utf8_acceptRanges), ("unicode/utf8.first", laid_unicode_utf8_first)] }
def FnExactTellApartSaid : Prop := fnExactTellApartRow.holds Tryd.pinned (OpenSpec.ofChange fnExactTellApartSpec)

/-- ITS FALSE NEIGHBOUR: 'it returns false'. Refute it at one input. -/
def fnExactTellApartWrong : ChangeSpec := { name := "fnExactTellApart", fn := fun _ => fun
  | [d1, d2, d3, d4, d5] => { results := [.lit (.bool false)], args := [d1, d2, d3, d4, d5] }
  | _ => none }
def FnExactTellApartWrongFalsely : Prop := fnExactTellApartRow.holds Tryd.pinned (OpenSpec.ofChange fnExactTellApartWrong)

/-- 'laws.FnExactSentenceFor': WHATEVER THE INPUT: true; the input reads as it did. -/
def fnExactSentenceForSpec : ChangeSpec := { name := "fnExactSentenceFor", fn := fun _ => fun
  | [d1, d2] => { results := [.lit (.bool true)], args := [d1, d2] }
  | _ => none }
def fnExactSentenceForRow : OpenClaim := { program := "ytjcoijejhachhaadoor", sum := "7a1f2cac9b957dd1335168ac3a61da6d9920c10e4992515c98a90c74349eeb2f", func := "loop.example/gamesonstructures/laws.FnExactSentenceFor", spec := "fnExactSentenceFor", inPlace := ["internal/bytealg.IndexByteString", "internal/bytealg.IndexString"], unfollowed := true, recurses := true, named := ["unicode/utf8.first", "unicode/utf8.acceptRanges", "internal/bytealg.MaxLen"], apart := false, laid := [("unicode/utf8.acceptRanges", laid_unicode_utf8_acceptRanges), ("unicode/utf8.first", laid_unicode_utf8_first)] }
def FnExactSentenceForSaid : Prop := fnExactSentenceForRow.holds Tryd.pinned (OpenSpec.ofChange fnExactSentenceForSpec)

/-- ITS FALSE NEIGHBOUR: 'it returns false'. Refute it at one input. -/
def fnExactSentenceForWrong : ChangeSpec := { name := "fnExactSentenceFor", fn := fun _ => fun
  | [d1, d2] => { results := [.lit (.bool false)], args := [d1, d2] }
  | _ => none }
def FnExactSentenceForWrongFalsely : Prop := fnExactSentenceForRow.holds Tryd.pinned (OpenSpec.ofChange fnExactSentenceForWrong)

/-- 'laws.FnExactPebblesWin': WHATEVER THE INPUT: true; the input reads as it did. -/
def fnExactPebblesWinSpec : ChangeSpec := { name := "fnExactPebblesWin", fn := fun _ => fun
  | [d1, d2, d3, d4, d5] => { results := [.lit (.bool true)], args := [d1, d2, d3, d4, d5] }
  | _ => none }
def fnExactPebblesWinRow : OpenClaim := { program := "ytjcoijejhachhaadoor", sum := "7a1f2cac9b957dd1335168ac3a61da6d9920c10e4992515c98a90c74349eeb2f", func := "loop.example/gamesonstructures/laws.FnExactPebblesWin", spec := "fnExactPebblesWin", inPlace := ["internal/bytealg.IndexByteString", "internal/bytealg.IndexString"], unfollowed := true, recurses := true, named := ["unicode/utf8.first", "unicode/utf8.acceptRanges", "internal/bytealg.MaxLen"], apart := false, laid := [("unicode/utf8.acceptRanges", laid_unicode_utf8_acceptRanges), ("unicode/utf8.first", laid_unicode_utf8_first)] }
def FnExactPebblesWinSaid : Prop := fnExactPebblesWinRow.holds Tryd.pinned (OpenSpec.ofChange fnExactPebblesWinSpec)

/-- ITS FALSE NEIGHBOUR: 'it returns false'. Refute it at one input. -/
def fnExactPebblesWinWrong : ChangeSpec := { name := "fnExactPebblesWin", fn := fun _ => fun
  | [d1, d2, d3, d4, d5] => { results := [.lit (.bool false)], args := [d1, d2, d3, d4, d5] }
  | _ => none }
def FnExactPebblesWinWrongFalsely : Prop := fnExactPebblesWinRow.holds Tryd.pinned (OpenSpec.ofChange fnExactPebblesWinWrong)

/-- 'laws.FnExactTurnsToWin': WHATEVER THE INPUT: true; the input reads as it did. -/
def fnExactTurnsToWinSpec : ChangeSpec := { name := "fnExactTurnsToWin", fn := fun _ => fun
  | [d1, d2, d3] => { results := [.lit (.bool true)], args := [d1, d2, d3] }
  | _ => none }
def fnExactTurnsToWinRow : OpenClaim := { program := "ytjcoijejhachhaadoor", sum := "7a1f2cac9b957dd1335168ac3a61da6d9920c10e4992515c98a90c74349eeb2f", func := "loop.example/gamesonstructures/laws.FnExactTurnsToWin", spec := "fnExactTurnsToWin", inPlace := ["internal/bytealg.IndexByteString", "internal/bytealg.IndexString"], unfollowed := true, recurses := true, named := ["unicode/utf8.first", "unicode/utf8.acceptRanges", "internal/bytealg.MaxLen"], apart := false, laid := [("unicode/utf8.acceptRanges", laid_unicode_utf8_acceptRanges), ("unicode/utf8.first", laid_unicode_utf8_first)] }
def FnExactTurnsToWinSaid : Prop := fnExactTurnsToWinRow.holds Tryd.pinned (OpenSpec.ofChange fnExactTurnsToWinSpec)

/-- ITS FALSE NEIGHBOUR: 'it returns false'. Refute it at one input. -/
def fnExactTurnsToWinWrong : ChangeSpec := { name := "fnExactTurnsToWin", fn := fun _ => fun
  | [d1, d2, d3] => { results := [.lit (.bool false)], args := [d1, d2, d3] }
  | _ => none }
def FnExactTurnsToWinWrongFalsely : Prop := fnExactTurnsToWinRow.holds Tryd.pinned (OpenSpec.ofChange fnExactTurnsToWinWrong)

/-- 'laws.FnExactPebblesForever': WHATEVER THE INPUT: true; the input reads as it did. -/
def fnExactPebblesForeverSpec : ChangeSpec := { name := "fnExactPebblesForever", fn := fun _ => fun
  | [d1, d2, d3, d4] => { results := [.lit (.bool true)], args := [d1, d2, d3, d4] }
  | _ => none }
def fnExactPebblesForeverRow : OpenClaim := { program := "ytjcoijejhachhaadoor", sum := "7a1f2cac9b957dd1335168ac3a61da6d9920c10e4992515c98a90c74349eeb2f", func := "loop.example/gamesonstructures/laws.FnExactPebblesForever", spec := "fnExactPebblesForever", inPlace := ["internal/bytealg.IndexByteString", "internal/bytealg.IndexString"], unfollowed := true, recurses := true, named := ["unicode/utf8.first", "unicode/utf8.acceptRanges", "internal/bytealg.MaxLen"], apart := false, laid := [("unicode/utf8.acceptRanges", laid_unicode_utf8_acceptRanges), ("unicode/utf8.first", laid_unicode_utf8_first)] }
def FnExactPebblesForeverSaid : Prop := fnExactPebblesForeverRow.holds Tryd.pinned (OpenSpec.ofChange fnExactPebblesForeverSpec)

/-- ITS FALSE NEIGHBOUR: 'it returns false'. Refute it at one input. -/
def fnExactPebblesForeverWrong : ChangeSpec := { name := "fnExactPebblesForever", fn := fun _ => fun
  | [d1, d2, d3, d4] => { results := [.lit (.bool false)], args := [d1, d2, d3, d4] }
  | _ => none }
def FnExactPebblesForeverWrongFalsely : Prop := fnExactPebblesForeverRow.holds Tryd.pinned (OpenSpec.ofChange fnExactPebblesForeverWrong)

/-- 'laws.FnExactPebbleClasses': WHATEVER THE INPUT: true; the input reads as it did. -/
def fnExactPebbleClassesSpec : ChangeSpec := { name := "fnExactPebbleClasses", fn := fun _ => fun
  | [d1, d2] => { results := [.lit (.bool true)], args := [d1, d2] }
  | _ => none }
def fnExactPebbleClassesRow : OpenClaim := { program := "ytjcoijejhachhaadoor", sum := "7a1f2cac9b957dd1335168ac3a61da6d9920c10e4992515c98a90c74349eeb2f", func := "loop.example/gamesonstructures/laws.FnExactPebbleClasses", spec := "fnExactPebbleClasses", inPlace := ["internal/bytealg.IndexByteString", "internal/bytealg.IndexString"], unfollowed := true, recurses := true, named := ["unicode/utf8.first", "unicode/utf8.acceptRanges", "internal/bytealg.MaxLen"], apart := false, laid := [("unicode/utf8.acceptRanges", laid_unicode_utf8_acceptRanges), ("unicode/utf8.first", laid_unicode_utf8_first)] }
def FnExactPebbleClassesSaid : Prop := fnExactPebbleClassesRow.holds Tryd.pinned (OpenSpec.ofChange fnExactPebbleClassesSpec)

/-- ITS FALSE NEIGHBOUR: 'it returns false'. Refute it at one input. -/
def fnExactPebbleClassesWrong : ChangeSpec := { name := "fnExactPebbleClasses", fn := fun _ => fun
  | [d1, d2] => { results := [.lit (.bool false)], args := [d1, d2] }
  | _ => none }
def FnExactPebbleClassesWrongFalsely : Prop := fnExactPebbleClassesRow.holds Tryd.pinned (OpenSpec.ofChange fnExactPebbleClassesWrong)

/-- 'laws.FnPebblesWin': WHATEVER THE INPUT: true; the input reads as it did. -/
def fnPebblesWinSpec : ChangeSpec := { name := "fnPebblesWin", fn := fun _ => fun
  | [d] => { results := [.lit (.bool true)], args := [d] }
  | _ => none }
def fnPebblesWinRow : OpenClaim := { program := "ytjcoijejhachhaadoor", sum := "7a1f2cac9b957dd1335168ac3a61da6d9920c10e4992515c98a90c74349eeb2f", func := "loop.example/gamesonstructures/laws.FnPebblesWin", spec := "fnPebblesWin", inPlace := ["internal/bytealg.IndexByteString", "internal/bytealg.IndexString"], unfollowed := true, recurses := true, named := ["unicode/utf8.first", "unicode/utf8.acceptRanges", "internal/bytealg.MaxLen"], apart := false, laid := [("unicode/utf8.acceptRanges", laid_unicode_utf8_acceptRanges), ("unicode/utf8.first", laid_unicode_utf8_first)] }
def FnPebblesWinSaid : Prop := fnPebblesWinRow.holds Tryd.pinned (OpenSpec.ofChange fnPebblesWinSpec)

/-- ITS FALSE NEIGHBOUR: 'it returns false'. Refute it at one input. -/
def fnPebblesWinWrong : ChangeSpec := { name := "fnPebblesWin", fn := fun _ => fun
  | [d] => { results := [.lit (.bool false)], args := [d] }
  | _ => none }
def FnPebblesWinWrongFalsely : Prop := fnPebblesWinRow.holds Tryd.pinned (OpenSpec.ofChange fnPebblesWinWrong)

/-- 'laws.FnForever': WHATEVER THE INPUT: true; the input reads as it did. -/
def fnForeverSpec : ChangeSpec := { name := "fnForever", fn := fun _ => fun
  | [d1, d2] => { results := [.lit (.bool true)], args := [d1, d2] }
  | _ => none }
def fnForeverRow : OpenClaim := { program := "ytjcoijejhachhaadoor", sum := "7a1f2cac9b957dd1335168ac3a61da6d9920c10e4992515c98a90c74349eeb2f", func := "loop.example/gamesonstructures/laws.FnForever", spec := "fnForever", inPlace := ["internal/bytealg.IndexByteString", "internal/bytealg.IndexString"], unfollowed := true, recurses := true, named := ["unicode/utf8.first", "unicode/utf8.acceptRanges", "internal/bytealg.MaxLen"], apart := false, laid := [("unicode/utf8.acceptRanges", laid_unicode_utf8_acceptRanges), ("unicode/utf8.first", laid_unicode_utf8_first)] }
def FnForeverSaid : Prop := fnForeverRow.holds Tryd.pinned (OpenSpec.ofChange fnForeverSpec)

/-- ITS FALSE NEIGHBOUR: 'it returns false'. Refute it at one input. -/
def fnForeverWrong : ChangeSpec := { name := "fnForever", fn := fun _ => fun
  | [d1, d2] => { results := [.lit (.bool false)], args := [d1, d2] }
  | _ => none }
def FnForeverWrongFalsely : Prop := fnForeverRow.holds Tryd.pinned (OpenSpec.ofChange fnForeverWrong)

/-- 'laws.FnTurnsToWin': WHATEVER THE INPUT: true; the input reads as it did. -/
def fnTurnsToWinSpec : ChangeSpec := { name := "fnTurnsToWin", fn := fun _ => fun
  | [d] => { results := [.lit (.bool true)], args := [d] }
  | _ => none }
def fnTurnsToWinRow : OpenClaim := { program := "ytjcoijejhachhaadoor", sum := "7a1f2cac9b957dd1335168ac3a61da6d9920c10e4992515c98a90c74349eeb2f", func := "loop.example/gamesonstructures/laws.FnTurnsToWin", spec := "fnTurnsToWin", inPlace := ["internal/bytealg.IndexByteString", "internal/bytealg.IndexString"], unfollowed := true, recurses := true, named := ["unicode/utf8.first", "unicode/utf8.acceptRanges", "internal/bytealg.MaxLen"], apart := false, laid := [("unicode/utf8.acceptRanges", laid_unicode_utf8_acceptRanges), ("unicode/utf8.first", laid_unicode_utf8_first)] }
def FnTurnsToWinSaid : Prop := fnTurnsToWinRow.holds Tryd.pinned (OpenSpec.ofChange fnTurnsToWinSpec)

/-- ITS FALSE NEIGHBOUR: 'it returns false'. Refute it at one input. -/
def fnTurnsToWinWrong : ChangeSpec := { name := "fnTurnsToWin", fn := fun _ => fun
  | [d] => { results := [.lit (.bool false)], args := [d] }
  | _ => none }
def FnTurnsToWinWrongFalsely : Prop := fnTurnsToWinRow.holds Tryd.pinned (OpenSpec.ofChange fnTurnsToWinWrong)

/-- 'laws.FnPebblesRounds': WHATEVER THE INPUT: true; the input reads as it did. -/
def fnPebblesRoundsSpec : ChangeSpec := { name := "fnPebblesRounds", fn := fun _ => fun
  | [d] => { results := [.lit (.bool true)], args := [d] }
  | _ => none }
def fnPebblesRoundsRow : OpenClaim := { program := "ytjcoijejhachhaadoor", sum := "7a1f2cac9b957dd1335168ac3a61da6d9920c10e4992515c98a90c74349eeb2f", func := "loop.example/gamesonstructures/laws.FnPebblesRounds", spec := "fnPebblesRounds", inPlace := ["internal/bytealg.IndexByteString", "internal/bytealg.IndexString"], unfollowed := true, recurses := true, named := ["unicode/utf8.first", "unicode/utf8.acceptRanges", "internal/bytealg.MaxLen"], apart := false, laid := [("unicode/utf8.acceptRanges", laid_unicode_utf8_acceptRanges), ("unicode/utf8.first", laid_unicode_utf8_first)] }
def FnPebblesRoundsSaid : Prop := fnPebblesRoundsRow.holds Tryd.pinned (OpenSpec.ofChange fnPebblesRoundsSpec)

/-- ITS FALSE NEIGHBOUR: 'it returns false'. Refute it at one input. -/
def fnPebblesRoundsWrong : ChangeSpec := { name := "fnPebblesRounds", fn := fun _ => fun
  | [d] => { results := [.lit (.bool false)], args := [d] }
  | _ => none }
def FnPebblesRoundsWrongFalsely : Prop := fnPebblesRoundsRow.holds Tryd.pinned (OpenSpec.ofChange fnPebblesRoundsWrong)

/- THE SECOND FORM. 'bulk': how many values and letters a reading holds, each counted each time it is reached (what is shared counts as often as it is met; a slice's spare places count too). A statement '..UptoSaid' is the law's where the arguments, and the package variables that the reading takes, are together of bulk at most 1048576: NARROWER than '..Said'. Prove '..Said' where nothing that the law and all that it calls make is longer than what came in: it says more and counts as full. Else prove '..UptoSaid'. A law counts once. -/
mutual
def uptoBulk {H : Type} : DataW H → Nat
  | .lit (.string bytes) => bytes.length + 1
  | .lit _ => 1
  | .nil => 1
  | .ptr d => uptoBulk d + 1
  | .slice elems spare => uptoBulkAll elems + uptoBulkAll spare + 1
  | .agg parts => uptoBulkAll parts + 1
  | .iface _ d => uptoBulk d + 1
  | .map entries => uptoBulkEntries entries + 1
  | .held _ => 1
def uptoBulkAll {H : Type} : List (DataW H) → Nat
  | [] => 0
  | d :: r => uptoBulk d + uptoBulkAll r
def uptoBulkEntries {H : Type} : List (Lit × DataW H) → Nat
  | [] => 0
  | x :: r => uptoBulkEntry x + uptoBulkEntries r
def uptoBulkEntry {H : Type} : Lit × DataW H → Nat
  | (.string bytes, d) => bytes.length + uptoBulk d + 1
  | (_, d) => uptoBulk d + 1
 end
def uptoSmall : (H : Type) → List (DataW H) → Bool := fun _ ds => decide (uptoBulkAll ds ≤ 1048576)
def OpenSpec.upto (s : _root_.Go.ChangeSpec) : _root_.Go.OpenSpec := { _root_.Go.OpenSpec.ofChange s with cond := some uptoSmall }

/-- 'laws.FnExactTypeFormula', WHERE WHAT IT READS IS OF BULK AT MOST 1048576: true; the input reads as it did. -/
def fnExactTypeFormulaUptoRow : OpenClaim := { program := "ytjcoijejhachhaadoor", sum := "7a1f2cac9b957dd1335168ac3a61da6d9920c10e4992515c98a90c74349eeb2f", func := "loop.example/gamesonstructures/laws.FnExactTypeFormula", spec := "fnExactTypeFormula", inPlace := ["internal/bytealg.IndexByteString", "internal/bytealg.IndexString"], unfollowed := true, recurses := true, named := ["unicode/utf8.first", "unicode/utf8.acceptRanges", "internal/bytealg.MaxLen"], apart := false, laid := [("unicode/utf8.acceptRanges", laid_unicode_utf8_acceptRanges), ("unicode/utf8.first", laid_unicode_utf8_first)], narrowed := true }
def FnExactTypeFormulaUptoSaid : Prop := fnExactTypeFormulaUptoRow.holds Tryd.pinned (OpenSpec.upto fnExactTypeFormulaSpec)

/-- 'laws.FnExactTellApart', WHERE WHAT IT READS IS OF BULK AT MOST 1048576: true; the input reads as it did. -/
def fnExactTellApartUptoRow : OpenClaim := { program := "ytjcoijejhachhaadoor", sum := "7a1f2cac9b957dd1335168ac3a61da6d9920c10e4992515c98a90c74349eeb2f", func := "loop.example/gamesonstructures/laws.FnExactTellApart", spec := "fnExactTellApart", inPlace := ["internal/bytealg.IndexByteString", "internal/bytealg.IndexString"], unfollowed := true, recurses := true, named := ["unicode/utf8.first", "unicode/utf8.acceptRanges", "internal/bytealg.MaxLen"], apart := false, laid := [("unicode/utf8.acceptRanges", laid_unicode_utf8_acceptRanges), ("unicode/utf8.first", laid_unicode_utf8_first)], narrowed := true }
def FnExactTellApartUptoSaid : Prop := fnExactTellApartUptoRow.holds Tryd.pinned (OpenSpec.upto fnExactTellApartSpec)

/-- 'laws.FnExactSentenceFor', WHERE WHAT IT READS IS OF BULK AT MOST 1048576: true; the input reads as it did. -/
def fnExactSentenceForUptoRow : OpenClaim := { program := "ytjcoijejhachhaadoor", sum := "7a1f2cac9b957dd1335168ac3a61da6d9920c10e4992515c98a90c74349eeb2f", func := "loop.example/gamesonstructures/laws.FnExactSentenceFor", spec := "fnExactSentenceFor", inPlace := ["internal/bytealg.IndexByteString", "internal/bytealg.IndexString"], unfollowed := true, recurses := true, named := ["unicode/utf8.first", "unicode/utf8.acceptRanges", "internal/bytealg.MaxLen"], apart := false, laid := [("unicode/utf8.acceptRanges", laid_unicode_utf8_acceptRanges), ("unicode/utf8.first", laid_unicode_utf8_first)], narrowed := true }
def FnExactSentenceForUptoSaid : Prop := fnExactSentenceForUptoRow.holds Tryd.pinned (OpenSpec.upto fnExactSentenceForSpec)

/-- 'laws.FnExactPebblesWin', WHERE WHAT IT READS IS OF BULK AT MOST 1048576: true; the input reads as it did. -/
def fnExactPebblesWinUptoRow : OpenClaim := { program := "ytjcoijejhachhaadoor", sum := "7a1f2cac9b957dd1335168ac3a61da6d9920c10e4992515c98a90c74349eeb2f", func := "loop.example/gamesonstructures/laws.FnExactPebblesWin", spec := "fnExactPebblesWin", inPlace := ["internal/bytealg.IndexByteString", "internal/bytealg.IndexString"], unfollowed := true, recurses := true, named := ["unicode/utf8.first", "unicode/utf8.acceptRanges", "internal/bytealg.MaxLen"], apart := false, laid := [("unicode/utf8.acceptRanges", laid_unicode_utf8_acceptRanges), ("unicode/utf8.first", laid_unicode_utf8_first)], narrowed := true }
def FnExactPebblesWinUptoSaid : Prop := fnExactPebblesWinUptoRow.holds Tryd.pinned (OpenSpec.upto fnExactPebblesWinSpec)

/-- 'laws.FnExactTurnsToWin', WHERE WHAT IT READS IS OF BULK AT MOST 1048576: true; the input reads as it did. -/
def fnExactTurnsToWinUptoRow : OpenClaim := { program := "ytjcoijejhachhaadoor", sum := "7a1f2cac9b957dd1335168ac3a61da6d9920c10e4992515c98a90c74349eeb2f", func := "loop.example/gamesonstructures/laws.FnExactTurnsToWin", spec := "fnExactTurnsToWin", inPlace := ["internal/bytealg.IndexByteString", "internal/bytealg.IndexString"], unfollowed := true, recurses := true, named := ["unicode/utf8.first", "unicode/utf8.acceptRanges", "internal/bytealg.MaxLen"], apart := false, laid := [("unicode/utf8.acceptRanges", laid_unicode_utf8_acceptRanges), ("unicode/utf8.first", laid_unicode_utf8_first)], narrowed := true }
def FnExactTurnsToWinUptoSaid : Prop := fnExactTurnsToWinUptoRow.holds Tryd.pinned (OpenSpec.upto fnExactTurnsToWinSpec)

/-- 'laws.FnExactPebblesForever', WHERE WHAT IT READS IS OF BULK AT MOST 1048576: true; the input reads as it did. -/
def fnExactPebblesForeverUptoRow : OpenClaim := { program := "ytjcoijejhachhaadoor", sum := "7a1f2cac9b957dd1335168ac3a61da6d9920c10e4992515c98a90c74349eeb2f", func := "loop.example/gamesonstructures/laws.FnExactPebblesForever", spec := "fnExactPebblesForever", inPlace := ["internal/bytealg.IndexByteString", "internal/bytealg.IndexString"], unfollowed := true, recurses := true, named := ["unicode/utf8.first", "unicode/utf8.acceptRanges", "internal/bytealg.MaxLen"], apart := false, laid := [("unicode/utf8.acceptRanges", laid_unicode_utf8_acceptRanges), ("unicode/utf8.first", laid_unicode_utf8_first)], narrowed := true }
def FnExactPebblesForeverUptoSaid : Prop := fnExactPebblesForeverUptoRow.holds Tryd.pinned (OpenSpec.upto fnExactPebblesForeverSpec)

/-- 'laws.FnExactPebbleClasses', WHERE WHAT IT READS IS OF BULK AT MOST 1048576: true; the input reads as it did. -/
def fnExactPebbleClassesUptoRow : OpenClaim := { program := "ytjcoijejhachhaadoor", sum := "7a1f2cac9b957dd1335168ac3a61da6d9920c10e4992515c98a90c74349eeb2f", func := "loop.example/gamesonstructures/laws.FnExactPebbleClasses", spec := "fnExactPebbleClasses", inPlace := ["internal/bytealg.IndexByteString", "internal/bytealg.IndexString"], unfollowed := true, recurses := true, named := ["unicode/utf8.first", "unicode/utf8.acceptRanges", "internal/bytealg.MaxLen"], apart := false, laid := [("unicode/utf8.acceptRanges", laid_unicode_utf8_acceptRanges), ("unicode/utf8.first", laid_unicode_utf8_first)], narrowed := true }
def FnExactPebbleClassesUptoSaid : Prop := fnExactPebbleClassesUptoRow.holds Tryd.pinned (OpenSpec.upto fnExactPebbleClassesSpec)

/-- 'laws.FnPebblesWin', WHERE WHAT IT READS IS OF BULK AT MOST 1048576: true; the input reads as it did. -/
def fnPebblesWinUptoRow : OpenClaim := { program := "ytjcoijejhachhaadoor", sum := "7a1f2cac9b957dd1335168ac3a61da6d9920c10e4992515c98a90c74349eeb2f", func := "loop.example/gamesonstructures/laws.FnPebblesWin", spec := "fnPebblesWin", inPlace := ["internal/bytealg.IndexByteString", "internal/bytealg.IndexString"], unfollowed := true, recurses := true, named := ["unicode/utf8.first", "unicode/utf8.acceptRanges", "internal/bytealg.MaxLen"], apart := false, laid := [("unicode/utf8.acceptRanges", laid_unicode_utf8_acceptRanges), ("unicode/utf8.first", laid_unicode_utf8_first)], narrowed := true }
def FnPebblesWinUptoSaid : Prop := fnPebblesWinUptoRow.holds Tryd.pinned (OpenSpec.upto fnPebblesWinSpec)

/-- 'laws.FnForever', WHERE WHAT IT READS IS OF BULK AT MOST 1048576: true; the input reads as it did. -/
def fnForeverUptoRow : OpenClaim := { program := "ytjcoijejhachhaadoor", sum := "7a1f2cac9b957dd1335168ac3a61da6d9920c10e4992515c98a90c74349eeb2f", func := "loop.example/gamesonstructures/laws.FnForever", spec := "fnForever", inPlace := ["internal/bytealg.IndexByteString", "internal/bytealg.IndexString"], unfollowed := true, recurses := true, named := ["unicode/utf8.first", "unicode/utf8.acceptRanges", "internal/bytealg.MaxLen"], apart := false, laid := [("unicode/utf8.acceptRanges", laid_unicode_utf8_acceptRanges), ("unicode/utf8.first", laid_unicode_utf8_first)], narrowed := true }
def FnForeverUptoSaid : Prop := fnForeverUptoRow.holds Tryd.pinned (OpenSpec.upto fnForeverSpec)

/-- 'laws.FnTurnsToWin', WHERE WHAT IT READS IS OF BULK AT MOST 1048576: true; the input reads as it did. -/
def fnTurnsToWinUptoRow : OpenClaim := { program := "ytjcoijejhachhaadoor", sum := "7a1f2cac9b957dd1335168ac3a61da6d9920c10e4992515c98a90c74349eeb2f", func := "loop.example/gamesonstructures/laws.FnTurnsToWin", spec := "fnTurnsToWin", inPlace := ["internal/bytealg.IndexByteString", "internal/bytealg.IndexString"], unfollowed := true, recurses := true, named := ["unicode/utf8.first", "unicode/utf8.acceptRanges", "internal/bytealg.MaxLen"], apart := false, laid := [("unicode/utf8.acceptRanges", laid_unicode_utf8_acceptRanges), ("unicode/utf8.first", laid_unicode_utf8_first)], narrowed := true }
def FnTurnsToWinUptoSaid : Prop := fnTurnsToWinUptoRow.holds Tryd.pinned (OpenSpec.upto fnTurnsToWinSpec)

/-- 'laws.FnPebblesRounds', WHERE WHAT IT READS IS OF BULK AT MOST 1048576: true; the input reads as it did. -/
def fnPebblesRoundsUptoRow : OpenClaim := { program := "ytjcoijejhachhaadoor", sum := "7a1f2cac9b957dd1335168ac3a61da6d9920c10e4992515c98a90c74349eeb2f", func := "loop.example/gamesonstructures/laws.FnPebblesRounds", spec := "fnPebblesRounds", inPlace := ["internal/bytealg.IndexByteString", "internal/bytealg.IndexString"], unfollowed := true, recurses := true, named := ["unicode/utf8.first", "unicode/utf8.acceptRanges", "internal/bytealg.MaxLen"], apart := false, laid := [("unicode/utf8.acceptRanges", laid_unicode_utf8_acceptRanges), ("unicode/utf8.first", laid_unicode_utf8_first)], narrowed := true }
def FnPebblesRoundsUptoSaid : Prop := fnPebblesRoundsUptoRow.holds Tryd.pinned (OpenSpec.upto fnPebblesRoundsSpec)

end Rows
end Go.Proofs.YtjcoijejhachhaaDoor
