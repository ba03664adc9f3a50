/-
  DERIVED. GIVEN WITH THE SEED: THE CARDS: each row of YtcimgnhebhhdiaaDoorRows.lean that lists a variable, with what it lists TIED to the program's text (the seventh form; the later family's looks); each row that meets fmt, with fmt's text TOLD by the authors' own Lean function (tested against real Go, not proved from fmt's source: count such statements apart). THE CARD IS WHAT COUNTS. Prove the row's statement (the work); the ties are given (YtcimgnhebhhdiaaDoorTie.lean); close each card by the builder's one call (the guide's Derived/Test/ToyasCard.lean, 'card_holds'). Laid BY PROGRAM, IN A SANDBOX (cutbox-door.mjs). By AI agents, Wed Nov 11 2026. No macro, syntax, notation, axiom, sorry.
-/
import Derived.Test.YtcimgnhebhhdiaaDoorRows
import GoSem.ClaimSeven
namespace Go.Proofs.YtcimgnhebhhdiaaDoor
namespace Rows

/-- THE TIED CARD OF 'laws.FnExactSpreadOf'. -/
def fnExactSpreadOfCard : Claim7 := { stood := { row := fnExactSpreadOfRow, standIns := [], harness := (true, "1f5bd2e4a3c2cb306e53f7fb8f492e8afb161ce7603154f11c43c07c85843afe"), looks := false }, kinds := [], alts := [], laidByText := true, laidKinds := [.data, .pinned], laidTests := true, laidLooks := .later }
def FnExactSpreadOfCardSaid : Prop := Claim7.holds Tryd.pinned (.plain (OpenSpec.ofChange fnExactSpreadOfSpec)) fnExactSpreadOfCard

/-- THE TIED CARD OF 'laws.FnExactLongestPartial'. -/
def fnExactLongestPartialCard : Claim7 := { stood := { row := fnExactLongestPartialRow, standIns := [], harness := (true, "1f5bd2e4a3c2cb306e53f7fb8f492e8afb161ce7603154f11c43c07c85843afe"), looks := false }, kinds := [], alts := [], laidByText := true, laidKinds := [.data, .pinned], laidTests := true, laidLooks := .later }
def FnExactLongestPartialCardSaid : Prop := Claim7.holds Tryd.pinned (.plain (OpenSpec.ofChange fnExactLongestPartialSpec)) fnExactLongestPartialCard

/-- THE TIED CARD OF 'laws.FnExactIsPartial'. -/
def fnExactIsPartialCard : Claim7 := { stood := { row := fnExactIsPartialRow, standIns := [], harness := (true, "1f5bd2e4a3c2cb306e53f7fb8f492e8afb161ce7603154f11c43c07c85843afe"), looks := false }, kinds := [], alts := [], laidByText := true, laidKinds := [.data, .pinned], laidTests := true, laidLooks := .later }
def FnExactIsPartialCardSaid : Prop := Claim7.holds Tryd.pinned (.plain (OpenSpec.ofChange fnExactIsPartialSpec)) fnExactIsPartialCard

/-- THE TIED CARD OF 'laws.FnExactAtomsOf'. -/
def fnExactAtomsOfCard : Claim7 := { stood := { row := fnExactAtomsOfRow, standIns := [], harness := (true, "1f5bd2e4a3c2cb306e53f7fb8f492e8afb161ce7603154f11c43c07c85843afe"), looks := false }, kinds := [], alts := [], laidByText := true, laidKinds := [.data, .pinned], laidTests := true, laidLooks := .later }
def FnExactAtomsOfCardSaid : Prop := Claim7.holds Tryd.pinned (.plain (OpenSpec.ofChange fnExactAtomsOfSpec)) fnExactAtomsOfCard

/-- THE TIED CARD OF 'laws.FnExactAnswersTo'. -/
def fnExactAnswersToCard : Claim7 := { stood := { row := fnExactAnswersToRow, standIns := [], harness := (true, "1f5bd2e4a3c2cb306e53f7fb8f492e8afb161ce7603154f11c43c07c85843afe"), looks := false }, kinds := [], alts := [], laidByText := true, laidKinds := [.data, .pinned], laidTests := true, laidLooks := .later }
def FnExactAnswersToCardSaid : Prop := Claim7.holds Tryd.pinned (.plain (OpenSpec.ofChange fnExactAnswersToSpec)) fnExactAnswersToCard

/-- THE TIED CARD OF 'laws.FnExactPebblesFit'. -/
def fnExactPebblesFitCard : Claim7 := { stood := { row := fnExactPebblesFitRow, standIns := [], harness := (true, "1f5bd2e4a3c2cb306e53f7fb8f492e8afb161ce7603154f11c43c07c85843afe"), looks := false }, kinds := [], alts := [], laidByText := true, laidKinds := [.data, .pinned], laidTests := true, laidLooks := .later }
def FnExactPebblesFitCardSaid : Prop := Claim7.holds Tryd.pinned (.plain (OpenSpec.ofChange fnExactPebblesFitSpec)) fnExactPebblesFitCard

/-- THE TIED CARD OF 'laws.FnExactCountKinds'. -/
def fnExactCountKindsCard : Claim7 := { stood := { row := fnExactCountKindsRow, standIns := [], harness := (true, "1f5bd2e4a3c2cb306e53f7fb8f492e8afb161ce7603154f11c43c07c85843afe"), looks := false }, kinds := [], alts := [], laidByText := true, laidKinds := [.data, .pinned], laidTests := true, laidLooks := .later }
def FnExactCountKindsCardSaid : Prop := Claim7.holds Tryd.pinned (.plain (OpenSpec.ofChange fnExactCountKindsSpec)) fnExactCountKindsCard

/-- THE TIED CARD OF 'laws.FnExactFactsFormula'. -/
def fnExactFactsFormulaCard : Claim7 := { stood := { row := fnExactFactsFormulaRow, standIns := [], harness := (true, "1f5bd2e4a3c2cb306e53f7fb8f492e8afb161ce7603154f11c43c07c85843afe"), looks := false }, kinds := [], alts := [], laidByText := true, laidKinds := [.data, .pinned], laidTests := true, laidLooks := .later }
def FnExactFactsFormulaCardSaid : Prop := Claim7.holds Tryd.pinned (.plain (OpenSpec.ofChange fnExactFactsFormulaSpec)) fnExactFactsFormulaCard

/-- THE TIED CARD OF 'laws.FnExactSameRank'. -/
def fnExactSameRankCard : Claim7 := { stood := { row := fnExactSameRankRow, standIns := [], harness := (true, "1f5bd2e4a3c2cb306e53f7fb8f492e8afb161ce7603154f11c43c07c85843afe"), looks := false }, kinds := [], alts := [], laidByText := true, laidKinds := [.data, .pinned], laidTests := true, laidLooks := .later }
def FnExactSameRankCardSaid : Prop := Claim7.holds Tryd.pinned (.plain (OpenSpec.ofChange fnExactSameRankSpec)) fnExactSameRankCard

/-- THE TIED CARD OF 'laws.FnExactSecondWins'. -/
def fnExactSecondWinsCard : Claim7 := { stood := { row := fnExactSecondWinsRow, standIns := [], harness := (true, "1f5bd2e4a3c2cb306e53f7fb8f492e8afb161ce7603154f11c43c07c85843afe"), looks := false }, kinds := [], alts := [], laidByText := true, laidKinds := [.data, .pinned], laidTests := true, laidLooks := .later }
def FnExactSecondWinsCardSaid : Prop := Claim7.holds Tryd.pinned (.plain (OpenSpec.ofChange fnExactSecondWinsSpec)) fnExactSecondWinsCard

/-- THE TIED CARD OF 'laws.FnExactWonRounds'. -/
def fnExactWonRoundsCard : Claim7 := { stood := { row := fnExactWonRoundsRow, standIns := [], harness := (true, "1f5bd2e4a3c2cb306e53f7fb8f492e8afb161ce7603154f11c43c07c85843afe"), looks := false }, kinds := [], alts := [], laidByText := true, laidKinds := [.data, .pinned], laidTests := true, laidLooks := .later }
def FnExactWonRoundsCardSaid : Prop := Claim7.holds Tryd.pinned (.plain (OpenSpec.ofChange fnExactWonRoundsSpec)) fnExactWonRoundsCard

/-- THE TIED CARD OF 'laws.FnExactCountClasses'. -/
def fnExactCountClassesCard : Claim7 := { stood := { row := fnExactCountClassesRow, standIns := [], harness := (true, "1f5bd2e4a3c2cb306e53f7fb8f492e8afb161ce7603154f11c43c07c85843afe"), looks := false }, kinds := [], alts := [], laidByText := true, laidKinds := [.data, .pinned], laidTests := true, laidLooks := .later }
def FnExactCountClassesCardSaid : Prop := Claim7.holds Tryd.pinned (.plain (OpenSpec.ofChange fnExactCountClassesSpec)) fnExactCountClassesCard

/-- THE SECOND FORM's CARD OF 'laws.FnExactSpreadOf'. -/
def fnExactSpreadOfUptoCard : Claim7 := { stood := { row := fnExactSpreadOfUptoRow, standIns := [], harness := (true, "1f5bd2e4a3c2cb306e53f7fb8f492e8afb161ce7603154f11c43c07c85843afe"), looks := false }, kinds := [], alts := [], laidByText := true, laidKinds := [.data, .pinned], laidTests := true, laidLooks := .later }
def FnExactSpreadOfUptoCardSaid : Prop := Claim7.holds Tryd.pinned (.plain (OpenSpec.upto fnExactSpreadOfSpec)) fnExactSpreadOfUptoCard

/-- THE SECOND FORM's CARD OF 'laws.FnExactLongestPartial'. -/
def fnExactLongestPartialUptoCard : Claim7 := { stood := { row := fnExactLongestPartialUptoRow, standIns := [], harness := (true, "1f5bd2e4a3c2cb306e53f7fb8f492e8afb161ce7603154f11c43c07c85843afe"), looks := false }, kinds := [], alts := [], laidByText := true, laidKinds := [.data, .pinned], laidTests := true, laidLooks := .later }
def FnExactLongestPartialUptoCardSaid : Prop := Claim7.holds Tryd.pinned (.plain (OpenSpec.upto fnExactLongestPartialSpec)) fnExactLongestPartialUptoCard

/-- THE SECOND FORM's CARD OF 'laws.FnExactIsPartial'. -/
def fnExactIsPartialUptoCard : Claim7 := { stood := { row := fnExactIsPartialUptoRow, standIns := [], harness := (true, "1f5bd2e4a3c2cb306e53f7fb8f492e8afb161ce7603154f11c43c07c85843afe"), looks := false }, kinds := [], alts := [], laidByText := true, laidKinds := [.data, .pinned], laidTests := true, laidLooks := .later }
def FnExactIsPartialUptoCardSaid : Prop := Claim7.holds Tryd.pinned (.plain (OpenSpec.upto fnExactIsPartialSpec)) fnExactIsPartialUptoCard

/-- THE SECOND FORM's CARD OF 'laws.FnExactAtomsOf'. -/
def fnExactAtomsOfUptoCard : Claim7 := { stood := { row := fnExactAtomsOfUptoRow, standIns := [], harness := (true, "1f5bd2e4a3c2cb306e53f7fb8f492e8afb161ce7603154f11c43c07c85843afe"), looks := false }, kinds := [], alts := [], laidByText := true, laidKinds := [.data, .pinned], laidTests := true, laidLooks := .later }
def FnExactAtomsOfUptoCardSaid : Prop := Claim7.holds Tryd.pinned (.plain (OpenSpec.upto fnExactAtomsOfSpec)) fnExactAtomsOfUptoCard

/-- THE SECOND FORM's CARD OF 'laws.FnExactAnswersTo'. -/
def fnExactAnswersToUptoCard : Claim7 := { stood := { row := fnExactAnswersToUptoRow, standIns := [], harness := (true, "1f5bd2e4a3c2cb306e53f7fb8f492e8afb161ce7603154f11c43c07c85843afe"), looks := false }, kinds := [], alts := [], laidByText := true, laidKinds := [.data, .pinned], laidTests := true, laidLooks := .later }
def FnExactAnswersToUptoCardSaid : Prop := Claim7.holds Tryd.pinned (.plain (OpenSpec.upto fnExactAnswersToSpec)) fnExactAnswersToUptoCard

/-- THE SECOND FORM's CARD OF 'laws.FnExactPebblesFit'. -/
def fnExactPebblesFitUptoCard : Claim7 := { stood := { row := fnExactPebblesFitUptoRow, standIns := [], harness := (true, "1f5bd2e4a3c2cb306e53f7fb8f492e8afb161ce7603154f11c43c07c85843afe"), looks := false }, kinds := [], alts := [], laidByText := true, laidKinds := [.data, .pinned], laidTests := true, laidLooks := .later }
def FnExactPebblesFitUptoCardSaid : Prop := Claim7.holds Tryd.pinned (.plain (OpenSpec.upto fnExactPebblesFitSpec)) fnExactPebblesFitUptoCard

/-- THE SECOND FORM's CARD OF 'laws.FnExactCountKinds'. -/
def fnExactCountKindsUptoCard : Claim7 := { stood := { row := fnExactCountKindsUptoRow, standIns := [], harness := (true, "1f5bd2e4a3c2cb306e53f7fb8f492e8afb161ce7603154f11c43c07c85843afe"), looks := false }, kinds := [], alts := [], laidByText := true, laidKinds := [.data, .pinned], laidTests := true, laidLooks := .later }
def FnExactCountKindsUptoCardSaid : Prop := Claim7.holds Tryd.pinned (.plain (OpenSpec.upto fnExactCountKindsSpec)) fnExactCountKindsUptoCard

/-- THE SECOND FORM's CARD OF 'laws.FnExactFactsFormula'. -/
def fnExactFactsFormulaUptoCard : Claim7 := { stood := { row := fnExactFactsFormulaUptoRow, standIns := [], harness := (true, "1f5bd2e4a3c2cb306e53f7fb8f492e8afb161ce7603154f11c43c07c85843afe"), looks := false }, kinds := [], alts := [], laidByText := true, laidKinds := [.data, .pinned], laidTests := true, laidLooks := .later }
def FnExactFactsFormulaUptoCardSaid : Prop := Claim7.holds Tryd.pinned (.plain (OpenSpec.upto fnExactFactsFormulaSpec)) fnExactFactsFormulaUptoCard

/-- THE SECOND FORM's CARD OF 'laws.FnExactSameRank'. -/
def fnExactSameRankUptoCard : Claim7 := { stood := { row := fnExactSameRankUptoRow, standIns := [], harness := (true, "1f5bd2e4a3c2cb306e53f7fb8f492e8afb161ce7603154f11c43c07c85843afe"), looks := false }, kinds := [], alts := [], laidByText := true, laidKinds := [.data, .pinned], laidTests := true, laidLooks := .later }
def FnExactSameRankUptoCardSaid : Prop := Claim7.holds Tryd.pinned (.plain (OpenSpec.upto fnExactSameRankSpec)) fnExactSameRankUptoCard

/-- THE SECOND FORM's CARD OF 'laws.FnExactSecondWins'. -/
def fnExactSecondWinsUptoCard : Claim7 := { stood := { row := fnExactSecondWinsUptoRow, standIns := [], harness := (true, "1f5bd2e4a3c2cb306e53f7fb8f492e8afb161ce7603154f11c43c07c85843afe"), looks := false }, kinds := [], alts := [], laidByText := true, laidKinds := [.data, .pinned], laidTests := true, laidLooks := .later }
def FnExactSecondWinsUptoCardSaid : Prop := Claim7.holds Tryd.pinned (.plain (OpenSpec.upto fnExactSecondWinsSpec)) fnExactSecondWinsUptoCard

/-- THE SECOND FORM's CARD OF 'laws.FnExactWonRounds'. -/
def fnExactWonRoundsUptoCard : Claim7 := { stood := { row := fnExactWonRoundsUptoRow, standIns := [], harness := (true, "1f5bd2e4a3c2cb306e53f7fb8f492e8afb161ce7603154f11c43c07c85843afe"), looks := false }, kinds := [], alts := [], laidByText := true, laidKinds := [.data, .pinned], laidTests := true, laidLooks := .later }
def FnExactWonRoundsUptoCardSaid : Prop := Claim7.holds Tryd.pinned (.plain (OpenSpec.upto fnExactWonRoundsSpec)) fnExactWonRoundsUptoCard

/-- THE SECOND FORM's CARD OF 'laws.FnExactCountClasses'. -/
def fnExactCountClassesUptoCard : Claim7 := { stood := { row := fnExactCountClassesUptoRow, standIns := [], harness := (true, "1f5bd2e4a3c2cb306e53f7fb8f492e8afb161ce7603154f11c43c07c85843afe"), looks := false }, kinds := [], alts := [], laidByText := true, laidKinds := [.data, .pinned], laidTests := true, laidLooks := .later }
def FnExactCountClassesUptoCardSaid : Prop := Claim7.holds Tryd.pinned (.plain (OpenSpec.upto fnExactCountClassesSpec)) fnExactCountClassesUptoCard
end Rows
end Go.Proofs.YtcimgnhebhhdiaaDoor
