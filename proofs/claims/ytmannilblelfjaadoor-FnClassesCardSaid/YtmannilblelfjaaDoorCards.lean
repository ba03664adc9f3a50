/-
  DERIVED. GIVEN WITH THE SEED: THE CARDS: each row of YtmannilblelfjaaDoorRows.lean that lists a variable, with what it lists TIED to the program's text (the seventh form; the later family's looks); each row that meets fmt, with fmt's text TOLD by the authors' own Lean function (tested against real Go, not proved from fmt's source: count such statements apart). THE CARD IS WHAT COUNTS. Prove the row's statement (the work); the ties are given (YtmannilblelfjaaDoorTie.lean); close each card by the builder's one call (the guide's Derived/Test/ToyasCard.lean, 'card_holds'). Laid BY PROGRAM, IN A SANDBOX (cutbox-door.mjs). By AI agents, Wed Nov 11 2026. No macro, syntax, notation, axiom, sorry.
-/
import Derived.Test.YtmannilblelfjaaDoorRows
import GoSem.ClaimSeven
namespace Go.Proofs.YtmannilblelfjaaDoor
namespace Rows

/-- THE TIED CARD OF 'laws.FnPebblesFit'. -/
def fnPebblesFitCard : Claim7 := { stood := { row := fnPebblesFitRow, standIns := [], harness := (true, "b4a388c6c70898f69cb48ad06f885900cfff7231efdfc1b51050aa66db3a2bc8"), looks := false }, kinds := [], alts := [], laidByText := true, laidKinds := [.data, .pinned], laidTests := true, laidLooks := .later }
def FnPebblesFitCardSaid : Prop := Claim7.holds Tryd.pinned (.plain (OpenSpec.ofChange fnPebblesFitSpec)) fnPebblesFitCard

/-- THE TIED CARD OF 'laws.FnAnswers'. -/
def fnAnswersCard : Claim7 := { stood := { row := fnAnswersRow, standIns := [], harness := (true, "b4a388c6c70898f69cb48ad06f885900cfff7231efdfc1b51050aa66db3a2bc8"), looks := false }, kinds := [], alts := [], laidByText := true, laidKinds := [.data, .pinned], laidTests := true, laidLooks := .later }
def FnAnswersCardSaid : Prop := Claim7.holds Tryd.pinned (.plain (OpenSpec.ofChange fnAnswersSpec)) fnAnswersCard

/-- THE TIED CARD OF 'laws.FnSecondWins'. -/
def fnSecondWinsCard : Claim7 := { stood := { row := fnSecondWinsRow, standIns := [], harness := (true, "b4a388c6c70898f69cb48ad06f885900cfff7231efdfc1b51050aa66db3a2bc8"), looks := false }, kinds := [], alts := [], laidByText := true, laidKinds := [.data, .pinned], laidTests := true, laidLooks := .later }
def FnSecondWinsCardSaid : Prop := Claim7.holds Tryd.pinned (.plain (OpenSpec.ofChange fnSecondWinsSpec)) fnSecondWinsCard

/-- THE TIED CARD OF 'laws.FnEquivalence'. -/
def fnEquivalenceCard : Claim7 := { stood := { row := fnEquivalenceRow, standIns := [], harness := (true, "b4a388c6c70898f69cb48ad06f885900cfff7231efdfc1b51050aa66db3a2bc8"), looks := false }, kinds := [], alts := [], laidByText := true, laidKinds := [.data, .pinned], laidTests := true, laidLooks := .later }
def FnEquivalenceCardSaid : Prop := Claim7.holds Tryd.pinned (.plain (OpenSpec.ofChange fnEquivalenceSpec)) fnEquivalenceCard

/-- THE TIED CARD OF 'laws.FnCountKinds'. -/
def fnCountKindsCard : Claim7 := { stood := { row := fnCountKindsRow, standIns := [], harness := (true, "b4a388c6c70898f69cb48ad06f885900cfff7231efdfc1b51050aa66db3a2bc8"), looks := false }, kinds := [], alts := [], laidByText := true, laidKinds := [.data, .pinned], laidTests := true, laidLooks := .later }
def FnCountKindsCardSaid : Prop := Claim7.holds Tryd.pinned (.plain (OpenSpec.ofChange fnCountKindsSpec)) fnCountKindsCard

/-- THE TIED CARD OF 'laws.FnCountClasses'. -/
def fnCountClassesCard : Claim7 := { stood := { row := fnCountClassesRow, standIns := [], harness := (true, "b4a388c6c70898f69cb48ad06f885900cfff7231efdfc1b51050aa66db3a2bc8"), looks := false }, kinds := [], alts := [], laidByText := true, laidKinds := [.data, .pinned], laidTests := true, laidLooks := .later }
def FnCountClassesCardSaid : Prop := Claim7.holds Tryd.pinned (.plain (OpenSpec.ofChange fnCountClassesSpec)) fnCountClassesCard

/-- THE TIED CARD OF 'laws.FnClasses'. -/
def fnClassesCard : Claim7 := { stood := { row := fnClassesRow, standIns := [], harness := (true, "b4a388c6c70898f69cb48ad06f885900cfff7231efdfc1b51050aa66db3a2bc8"), looks := false }, kinds := [], alts := [], laidByText := true, laidKinds := [.data, .pinned], laidTests := true, laidLooks := .later }
def FnClassesCardSaid : Prop := Claim7.holds Tryd.pinned (.plain (OpenSpec.ofChange fnClassesSpec)) fnClassesCard

/-- THE TIED CARD OF 'laws.FnSecondReply'. -/
def fnSecondReplyCard : Claim7 := { stood := { row := fnSecondReplyRow, standIns := [], harness := (true, "b4a388c6c70898f69cb48ad06f885900cfff7231efdfc1b51050aa66db3a2bc8"), looks := false }, kinds := [], alts := [], laidByText := true, laidKinds := [.data, .pinned], laidTests := true, laidLooks := .later }
def FnSecondReplyCardSaid : Prop := Claim7.holds Tryd.pinned (.plain (OpenSpec.ofChange fnSecondReplySpec)) fnSecondReplyCard

/-- THE TIED CARD OF 'laws.FnFirstMove'. -/
def fnFirstMoveCard : Claim7 := { stood := { row := fnFirstMoveRow, standIns := [], harness := (true, "b4a388c6c70898f69cb48ad06f885900cfff7231efdfc1b51050aa66db3a2bc8"), looks := false }, kinds := [], alts := [], laidByText := true, laidKinds := [.data, .pinned], laidTests := true, laidLooks := .later }
def FnFirstMoveCardSaid : Prop := Claim7.holds Tryd.pinned (.plain (OpenSpec.ofChange fnFirstMoveSpec)) fnFirstMoveCard

/-- THE TIED CARD OF 'laws.FnWonRounds'. -/
def fnWonRoundsCard : Claim7 := { stood := { row := fnWonRoundsRow, standIns := [], harness := (true, "b4a388c6c70898f69cb48ad06f885900cfff7231efdfc1b51050aa66db3a2bc8"), looks := false }, kinds := [], alts := [], laidByText := true, laidKinds := [.data, .pinned], laidTests := true, laidLooks := .later }
def FnWonRoundsCardSaid : Prop := Claim7.holds Tryd.pinned (.plain (OpenSpec.ofChange fnWonRoundsSpec)) fnWonRoundsCard

/-- THE TIED CARD OF 'laws.FnExactTurnsToWin'. -/
def fnExactTurnsToWinCard : Claim7 := { stood := { row := fnExactTurnsToWinRow, standIns := [], harness := (true, "b4a388c6c70898f69cb48ad06f885900cfff7231efdfc1b51050aa66db3a2bc8"), looks := false }, kinds := [], alts := [], laidByText := true, laidKinds := [.data, .pinned], laidTests := true, laidLooks := .later }
def FnExactTurnsToWinCardSaid : Prop := Claim7.holds Tryd.pinned (.plain (OpenSpec.ofChange fnExactTurnsToWinSpec)) fnExactTurnsToWinCard

/-- THE TIED CARD OF 'laws.FnExactPebblesWin'. -/
def fnExactPebblesWinCard : Claim7 := { stood := { row := fnExactPebblesWinRow, standIns := [], harness := (true, "b4a388c6c70898f69cb48ad06f885900cfff7231efdfc1b51050aa66db3a2bc8"), looks := false }, kinds := [], alts := [], laidByText := true, laidKinds := [.data, .pinned], laidTests := true, laidLooks := .later }
def FnExactPebblesWinCardSaid : Prop := Claim7.holds Tryd.pinned (.plain (OpenSpec.ofChange fnExactPebblesWinSpec)) fnExactPebblesWinCard

/-- THE SECOND FORM's CARD OF 'laws.FnPebblesFit'. -/
def fnPebblesFitUptoCard : Claim7 := { stood := { row := fnPebblesFitUptoRow, standIns := [], harness := (true, "b4a388c6c70898f69cb48ad06f885900cfff7231efdfc1b51050aa66db3a2bc8"), looks := false }, kinds := [], alts := [], laidByText := true, laidKinds := [.data, .pinned], laidTests := true, laidLooks := .later }
def FnPebblesFitUptoCardSaid : Prop := Claim7.holds Tryd.pinned (.plain (OpenSpec.upto fnPebblesFitSpec)) fnPebblesFitUptoCard

/-- THE SECOND FORM's CARD OF 'laws.FnAnswers'. -/
def fnAnswersUptoCard : Claim7 := { stood := { row := fnAnswersUptoRow, standIns := [], harness := (true, "b4a388c6c70898f69cb48ad06f885900cfff7231efdfc1b51050aa66db3a2bc8"), looks := false }, kinds := [], alts := [], laidByText := true, laidKinds := [.data, .pinned], laidTests := true, laidLooks := .later }
def FnAnswersUptoCardSaid : Prop := Claim7.holds Tryd.pinned (.plain (OpenSpec.upto fnAnswersSpec)) fnAnswersUptoCard

/-- THE SECOND FORM's CARD OF 'laws.FnSecondWins'. -/
def fnSecondWinsUptoCard : Claim7 := { stood := { row := fnSecondWinsUptoRow, standIns := [], harness := (true, "b4a388c6c70898f69cb48ad06f885900cfff7231efdfc1b51050aa66db3a2bc8"), looks := false }, kinds := [], alts := [], laidByText := true, laidKinds := [.data, .pinned], laidTests := true, laidLooks := .later }
def FnSecondWinsUptoCardSaid : Prop := Claim7.holds Tryd.pinned (.plain (OpenSpec.upto fnSecondWinsSpec)) fnSecondWinsUptoCard

/-- THE SECOND FORM's CARD OF 'laws.FnEquivalence'. -/
def fnEquivalenceUptoCard : Claim7 := { stood := { row := fnEquivalenceUptoRow, standIns := [], harness := (true, "b4a388c6c70898f69cb48ad06f885900cfff7231efdfc1b51050aa66db3a2bc8"), looks := false }, kinds := [], alts := [], laidByText := true, laidKinds := [.data, .pinned], laidTests := true, laidLooks := .later }
def FnEquivalenceUptoCardSaid : Prop := Claim7.holds Tryd.pinned (.plain (OpenSpec.upto fnEquivalenceSpec)) fnEquivalenceUptoCard

/-- THE SECOND FORM's CARD OF 'laws.FnCountKinds'. -/
def fnCountKindsUptoCard : Claim7 := { stood := { row := fnCountKindsUptoRow, standIns := [], harness := (true, "b4a388c6c70898f69cb48ad06f885900cfff7231efdfc1b51050aa66db3a2bc8"), looks := false }, kinds := [], alts := [], laidByText := true, laidKinds := [.data, .pinned], laidTests := true, laidLooks := .later }
def FnCountKindsUptoCardSaid : Prop := Claim7.holds Tryd.pinned (.plain (OpenSpec.upto fnCountKindsSpec)) fnCountKindsUptoCard

/-- THE SECOND FORM's CARD OF 'laws.FnCountClasses'. -/
def fnCountClassesUptoCard : Claim7 := { stood := { row := fnCountClassesUptoRow, standIns := [], harness := (true, "b4a388c6c70898f69cb48ad06f885900cfff7231efdfc1b51050aa66db3a2bc8"), looks := false }, kinds := [], alts := [], laidByText := true, laidKinds := [.data, .pinned], laidTests := true, laidLooks := .later }
def FnCountClassesUptoCardSaid : Prop := Claim7.holds Tryd.pinned (.plain (OpenSpec.upto fnCountClassesSpec)) fnCountClassesUptoCard

/-- THE SECOND FORM's CARD OF 'laws.FnClasses'. -/
def fnClassesUptoCard : Claim7 := { stood := { row := fnClassesUptoRow, standIns := [], harness := (true, "b4a388c6c70898f69cb48ad06f885900cfff7231efdfc1b51050aa66db3a2bc8"), looks := false }, kinds := [], alts := [], laidByText := true, laidKinds := [.data, .pinned], laidTests := true, laidLooks := .later }
def FnClassesUptoCardSaid : Prop := Claim7.holds Tryd.pinned (.plain (OpenSpec.upto fnClassesSpec)) fnClassesUptoCard

/-- THE SECOND FORM's CARD OF 'laws.FnSecondReply'. -/
def fnSecondReplyUptoCard : Claim7 := { stood := { row := fnSecondReplyUptoRow, standIns := [], harness := (true, "b4a388c6c70898f69cb48ad06f885900cfff7231efdfc1b51050aa66db3a2bc8"), looks := false }, kinds := [], alts := [], laidByText := true, laidKinds := [.data, .pinned], laidTests := true, laidLooks := .later }
def FnSecondReplyUptoCardSaid : Prop := Claim7.holds Tryd.pinned (.plain (OpenSpec.upto fnSecondReplySpec)) fnSecondReplyUptoCard

/-- THE SECOND FORM's CARD OF 'laws.FnFirstMove'. -/
def fnFirstMoveUptoCard : Claim7 := { stood := { row := fnFirstMoveUptoRow, standIns := [], harness := (true, "b4a388c6c70898f69cb48ad06f885900cfff7231efdfc1b51050aa66db3a2bc8"), looks := false }, kinds := [], alts := [], laidByText := true, laidKinds := [.data, .pinned], laidTests := true, laidLooks := .later }
def FnFirstMoveUptoCardSaid : Prop := Claim7.holds Tryd.pinned (.plain (OpenSpec.upto fnFirstMoveSpec)) fnFirstMoveUptoCard

/-- THE SECOND FORM's CARD OF 'laws.FnWonRounds'. -/
def fnWonRoundsUptoCard : Claim7 := { stood := { row := fnWonRoundsUptoRow, standIns := [], harness := (true, "b4a388c6c70898f69cb48ad06f885900cfff7231efdfc1b51050aa66db3a2bc8"), looks := false }, kinds := [], alts := [], laidByText := true, laidKinds := [.data, .pinned], laidTests := true, laidLooks := .later }
def FnWonRoundsUptoCardSaid : Prop := Claim7.holds Tryd.pinned (.plain (OpenSpec.upto fnWonRoundsSpec)) fnWonRoundsUptoCard

/-- THE SECOND FORM's CARD OF 'laws.FnExactTurnsToWin'. -/
def fnExactTurnsToWinUptoCard : Claim7 := { stood := { row := fnExactTurnsToWinUptoRow, standIns := [], harness := (true, "b4a388c6c70898f69cb48ad06f885900cfff7231efdfc1b51050aa66db3a2bc8"), looks := false }, kinds := [], alts := [], laidByText := true, laidKinds := [.data, .pinned], laidTests := true, laidLooks := .later }
def FnExactTurnsToWinUptoCardSaid : Prop := Claim7.holds Tryd.pinned (.plain (OpenSpec.upto fnExactTurnsToWinSpec)) fnExactTurnsToWinUptoCard

/-- THE SECOND FORM's CARD OF 'laws.FnExactPebblesWin'. -/
def fnExactPebblesWinUptoCard : Claim7 := { stood := { row := fnExactPebblesWinUptoRow, standIns := [], harness := (true, "b4a388c6c70898f69cb48ad06f885900cfff7231efdfc1b51050aa66db3a2bc8"), looks := false }, kinds := [], alts := [], laidByText := true, laidKinds := [.data, .pinned], laidTests := true, laidLooks := .later }
def FnExactPebblesWinUptoCardSaid : Prop := Claim7.holds Tryd.pinned (.plain (OpenSpec.upto fnExactPebblesWinSpec)) fnExactPebblesWinUptoCard
end Rows
end Go.Proofs.YtmannilblelfjaaDoor
