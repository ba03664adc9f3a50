/-
  DERIVED. GIVEN WITH THE SEED: THE CARDS: each row of YtjcoijejhachhaaDoorRows.lean that lists a variable, with what it lists TIED to the program's text (the seventh form; the later family's looks); each row that meets fmt, with fmt's text TOLD by the authors' own Lean function (tested against real Go, not proved from fmt's source: count such statements apart). THE CARD IS WHAT COUNTS. Prove the row's statement (the work); the ties are given (YtjcoijejhachhaaDoorTie.lean); close each card by the builder's one call (the guide's Derived/Test/ToyasCard.lean, 'card_holds'). Laid BY PROGRAM, IN A SANDBOX (cutbox-door.mjs). By AI agents, Wed Nov 11 2026. No macro, syntax, notation, axiom, sorry.
-/
import Derived.Test.YtjcoijejhachhaaDoorRows
import GoSem.ClaimSeven
namespace Go.Proofs.YtjcoijejhachhaaDoor
namespace Rows

/-- THE TIED CARD OF 'laws.FnExactTypeFormula'. -/
def fnExactTypeFormulaCard : Claim7 := { stood := { row := fnExactTypeFormulaRow, standIns := [], harness := (true, "763d5f21263b5db640263cb25207734a27900f3eb3e1ad0c535eaa9f054926b5"), looks := false }, kinds := [], alts := [], laidByText := true, laidKinds := [.data, .pinned], laidTests := true, laidLooks := .later }
def FnExactTypeFormulaCardSaid : Prop := Claim7.holds Tryd.pinned (.plain (OpenSpec.ofChange fnExactTypeFormulaSpec)) fnExactTypeFormulaCard

/-- THE TIED CARD OF 'laws.FnExactTellApart'. -/
def fnExactTellApartCard : Claim7 := { stood := { row := fnExactTellApartRow, standIns := [], harness := (true, "763d5f21263b5db640263cb25207734a27900f3eb3e1ad0c535eaa9f054926b5"), looks := false }, kinds := [], alts := [], laidByText := true, laidKinds := [.data, .pinned], laidTests := true, laidLooks := .later }
def FnExactTellApartCardSaid : Prop := Claim7.holds Tryd.pinned (.plain (OpenSpec.ofChange fnExactTellApartSpec)) fnExactTellApartCard

/-- THE TIED CARD OF 'laws.FnExactSentenceFor'. -/
def fnExactSentenceForCard : Claim7 := { stood := { row := fnExactSentenceForRow, standIns := [], harness := (true, "763d5f21263b5db640263cb25207734a27900f3eb3e1ad0c535eaa9f054926b5"), looks := false }, kinds := [], alts := [], laidByText := true, laidKinds := [.data, .pinned], laidTests := true, laidLooks := .later }
def FnExactSentenceForCardSaid : Prop := Claim7.holds Tryd.pinned (.plain (OpenSpec.ofChange fnExactSentenceForSpec)) fnExactSentenceForCard

/-- THE TIED CARD OF 'laws.FnExactPebblesWin'. -/
def fnExactPebblesWinCard : Claim7 := { stood := { row := fnExactPebblesWinRow, standIns := [], harness := (true, "763d5f21263b5db640263cb25207734a27900f3eb3e1ad0c535eaa9f054926b5"), looks := false }, kinds := [], alts := [], laidByText := true, laidKinds := [.data, .pinned], laidTests := true, laidLooks := .later }
def FnExactPebblesWinCardSaid : Prop := Claim7.holds Tryd.pinned (.plain (OpenSpec.ofChange fnExactPebblesWinSpec)) fnExactPebblesWinCard

/-- THE TIED CARD OF 'laws.FnExactTurnsToWin'. -/
def fnExactTurnsToWinCard : Claim7 := { stood := { row := fnExactTurnsToWinRow, standIns := [], harness := (true, "763d5f21263b5db640263cb25207734a27900f3eb3e1ad0c535eaa9f054926b5"), looks := false }, kinds := [], alts := [], laidByText := true, laidKinds := [.data, .pinned], laidTests := true, laidLooks := .later }
def FnExactTurnsToWinCardSaid : Prop := Claim7.holds Tryd.pinned (.plain (OpenSpec.ofChange fnExactTurnsToWinSpec)) fnExactTurnsToWinCard

/-- THE TIED CARD OF 'laws.FnExactPebblesForever'. -/
def fnExactPebblesForeverCard : Claim7 := { stood := { row := fnExactPebblesForeverRow, standIns := [], harness := (true, "763d5f21263b5db640263cb25207734a27900f3eb3e1ad0c535eaa9f054926b5"), looks := false }, kinds := [], alts := [], laidByText := true, laidKinds := [.data, .pinned], laidTests := true, laidLooks := .later }
def FnExactPebblesForeverCardSaid : Prop := Claim7.holds Tryd.pinned (.plain (OpenSpec.ofChange fnExactPebblesForeverSpec)) fnExactPebblesForeverCard

/-- THE TIED CARD OF 'laws.FnExactPebbleClasses'. -/
def fnExactPebbleClassesCard : Claim7 := { stood := { row := fnExactPebbleClassesRow, standIns := [], harness := (true, "763d5f21263b5db640263cb25207734a27900f3eb3e1ad0c535eaa9f054926b5"), looks := false }, kinds := [], alts := [], laidByText := true, laidKinds := [.data, .pinned], laidTests := true, laidLooks := .later }
def FnExactPebbleClassesCardSaid : Prop := Claim7.holds Tryd.pinned (.plain (OpenSpec.ofChange fnExactPebbleClassesSpec)) fnExactPebbleClassesCard

/-- THE TIED CARD OF 'laws.FnPebblesWin'. -/
def fnPebblesWinCard : Claim7 := { stood := { row := fnPebblesWinRow, standIns := [], harness := (true, "763d5f21263b5db640263cb25207734a27900f3eb3e1ad0c535eaa9f054926b5"), looks := false }, kinds := [], alts := [], laidByText := true, laidKinds := [.data, .pinned], laidTests := true, laidLooks := .later }
def FnPebblesWinCardSaid : Prop := Claim7.holds Tryd.pinned (.plain (OpenSpec.ofChange fnPebblesWinSpec)) fnPebblesWinCard

/-- THE TIED CARD OF 'laws.FnForever'. -/
def fnForeverCard : Claim7 := { stood := { row := fnForeverRow, standIns := [], harness := (true, "763d5f21263b5db640263cb25207734a27900f3eb3e1ad0c535eaa9f054926b5"), looks := false }, kinds := [], alts := [], laidByText := true, laidKinds := [.data, .pinned], laidTests := true, laidLooks := .later }
def FnForeverCardSaid : Prop := Claim7.holds Tryd.pinned (.plain (OpenSpec.ofChange fnForeverSpec)) fnForeverCard

/-- THE TIED CARD OF 'laws.FnTurnsToWin'. -/
def fnTurnsToWinCard : Claim7 := { stood := { row := fnTurnsToWinRow, standIns := [], harness := (true, "763d5f21263b5db640263cb25207734a27900f3eb3e1ad0c535eaa9f054926b5"), looks := false }, kinds := [], alts := [], laidByText := true, laidKinds := [.data, .pinned], laidTests := true, laidLooks := .later }
def FnTurnsToWinCardSaid : Prop := Claim7.holds Tryd.pinned (.plain (OpenSpec.ofChange fnTurnsToWinSpec)) fnTurnsToWinCard

/-- THE TIED CARD OF 'laws.FnPebblesRounds'. -/
def fnPebblesRoundsCard : Claim7 := { stood := { row := fnPebblesRoundsRow, standIns := [], harness := (true, "763d5f21263b5db640263cb25207734a27900f3eb3e1ad0c535eaa9f054926b5"), looks := false }, kinds := [], alts := [], laidByText := true, laidKinds := [.data, .pinned], laidTests := true, laidLooks := .later }
def FnPebblesRoundsCardSaid : Prop := Claim7.holds Tryd.pinned (.plain (OpenSpec.ofChange fnPebblesRoundsSpec)) fnPebblesRoundsCard

/-- THE SECOND FORM's CARD OF 'laws.FnExactTypeFormula'. -/
def fnExactTypeFormulaUptoCard : Claim7 := { stood := { row := fnExactTypeFormulaUptoRow, standIns := [], harness := (true, "763d5f21263b5db640263cb25207734a27900f3eb3e1ad0c535eaa9f054926b5"), looks := false }, kinds := [], alts := [], laidByText := true, laidKinds := [.data, .pinned], laidTests := true, laidLooks := .later }
def FnExactTypeFormulaUptoCardSaid : Prop := Claim7.holds Tryd.pinned (.plain (OpenSpec.upto fnExactTypeFormulaSpec)) fnExactTypeFormulaUptoCard

/-- THE SECOND FORM's CARD OF 'laws.FnExactTellApart'. -/
def fnExactTellApartUptoCard : Claim7 := { stood := { row := fnExactTellApartUptoRow, standIns := [], harness := (true, "763d5f21263b5db640263cb25207734a27900f3eb3e1ad0c535eaa9f054926b5"), looks := false }, kinds := [], alts := [], laidByText := true, laidKinds := [.data, .pinned], laidTests := true, laidLooks := .later }
def FnExactTellApartUptoCardSaid : Prop := Claim7.holds Tryd.pinned (.plain (OpenSpec.upto fnExactTellApartSpec)) fnExactTellApartUptoCard

/-- THE SECOND FORM's CARD OF 'laws.FnExactSentenceFor'. -/
def fnExactSentenceForUptoCard : Claim7 := { stood := { row := fnExactSentenceForUptoRow, standIns := [], harness := (true, "763d5f21263b5db640263cb25207734a27900f3eb3e1ad0c535eaa9f054926b5"), looks := false }, kinds := [], alts := [], laidByText := true, laidKinds := [.data, .pinned], laidTests := true, laidLooks := .later }
def FnExactSentenceForUptoCardSaid : Prop := Claim7.holds Tryd.pinned (.plain (OpenSpec.upto fnExactSentenceForSpec)) fnExactSentenceForUptoCard

/-- THE SECOND FORM's CARD OF 'laws.FnExactPebblesWin'. -/
def fnExactPebblesWinUptoCard : Claim7 := { stood := { row := fnExactPebblesWinUptoRow, standIns := [], harness := (true, "763d5f21263b5db640263cb25207734a27900f3eb3e1ad0c535eaa9f054926b5"), looks := false }, kinds := [], alts := [], laidByText := true, laidKinds := [.data, .pinned], laidTests := true, laidLooks := .later }
def FnExactPebblesWinUptoCardSaid : Prop := Claim7.holds Tryd.pinned (.plain (OpenSpec.upto fnExactPebblesWinSpec)) fnExactPebblesWinUptoCard

/-- THE SECOND FORM's CARD OF 'laws.FnExactTurnsToWin'. -/
def fnExactTurnsToWinUptoCard : Claim7 := { stood := { row := fnExactTurnsToWinUptoRow, standIns := [], harness := (true, "763d5f21263b5db640263cb25207734a27900f3eb3e1ad0c535eaa9f054926b5"), looks := false }, kinds := [], alts := [], laidByText := true, laidKinds := [.data, .pinned], laidTests := true, laidLooks := .later }
def FnExactTurnsToWinUptoCardSaid : Prop := Claim7.holds Tryd.pinned (.plain (OpenSpec.upto fnExactTurnsToWinSpec)) fnExactTurnsToWinUptoCard

/-- THE SECOND FORM's CARD OF 'laws.FnExactPebblesForever'. -/
def fnExactPebblesForeverUptoCard : Claim7 := { stood := { row := fnExactPebblesForeverUptoRow, standIns := [], harness := (true, "763d5f21263b5db640263cb25207734a27900f3eb3e1ad0c535eaa9f054926b5"), looks := false }, kinds := [], alts := [], laidByText := true, laidKinds := [.data, .pinned], laidTests := true, laidLooks := .later }
def FnExactPebblesForeverUptoCardSaid : Prop := Claim7.holds Tryd.pinned (.plain (OpenSpec.upto fnExactPebblesForeverSpec)) fnExactPebblesForeverUptoCard

/-- THE SECOND FORM's CARD OF 'laws.FnExactPebbleClasses'. -/
def fnExactPebbleClassesUptoCard : Claim7 := { stood := { row := fnExactPebbleClassesUptoRow, standIns := [], harness := (true, "763d5f21263b5db640263cb25207734a27900f3eb3e1ad0c535eaa9f054926b5"), looks := false }, kinds := [], alts := [], laidByText := true, laidKinds := [.data, .pinned], laidTests := true, laidLooks := .later }
def FnExactPebbleClassesUptoCardSaid : Prop := Claim7.holds Tryd.pinned (.plain (OpenSpec.upto fnExactPebbleClassesSpec)) fnExactPebbleClassesUptoCard

/-- THE SECOND FORM's CARD OF 'laws.FnPebblesWin'. -/
def fnPebblesWinUptoCard : Claim7 := { stood := { row := fnPebblesWinUptoRow, standIns := [], harness := (true, "763d5f21263b5db640263cb25207734a27900f3eb3e1ad0c535eaa9f054926b5"), looks := false }, kinds := [], alts := [], laidByText := true, laidKinds := [.data, .pinned], laidTests := true, laidLooks := .later }
def FnPebblesWinUptoCardSaid : Prop := Claim7.holds Tryd.pinned (.plain (OpenSpec.upto fnPebblesWinSpec)) fnPebblesWinUptoCard

/-- THE SECOND FORM's CARD OF 'laws.FnForever'. -/
def fnForeverUptoCard : Claim7 := { stood := { row := fnForeverUptoRow, standIns := [], harness := (true, "763d5f21263b5db640263cb25207734a27900f3eb3e1ad0c535eaa9f054926b5"), looks := false }, kinds := [], alts := [], laidByText := true, laidKinds := [.data, .pinned], laidTests := true, laidLooks := .later }
def FnForeverUptoCardSaid : Prop := Claim7.holds Tryd.pinned (.plain (OpenSpec.upto fnForeverSpec)) fnForeverUptoCard

/-- THE SECOND FORM's CARD OF 'laws.FnTurnsToWin'. -/
def fnTurnsToWinUptoCard : Claim7 := { stood := { row := fnTurnsToWinUptoRow, standIns := [], harness := (true, "763d5f21263b5db640263cb25207734a27900f3eb3e1ad0c535eaa9f054926b5"), looks := false }, kinds := [], alts := [], laidByText := true, laidKinds := [.data, .pinned], laidTests := true, laidLooks := .later }
def FnTurnsToWinUptoCardSaid : Prop := Claim7.holds Tryd.pinned (.plain (OpenSpec.upto fnTurnsToWinSpec)) fnTurnsToWinUptoCard

/-- THE SECOND FORM's CARD OF 'laws.FnPebblesRounds'. -/
def fnPebblesRoundsUptoCard : Claim7 := { stood := { row := fnPebblesRoundsUptoRow, standIns := [], harness := (true, "763d5f21263b5db640263cb25207734a27900f3eb3e1ad0c535eaa9f054926b5"), looks := false }, kinds := [], alts := [], laidByText := true, laidKinds := [.data, .pinned], laidTests := true, laidLooks := .later }
def FnPebblesRoundsUptoCardSaid : Prop := Claim7.holds Tryd.pinned (.plain (OpenSpec.upto fnPebblesRoundsSpec)) fnPebblesRoundsUptoCard
end Rows
end Go.Proofs.YtjcoijejhachhaaDoor
