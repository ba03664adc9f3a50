/-
  DERIVED. GIVEN WITH THE SEED: THE CARDS: each row of YtcanofailfbllaaDoorRows.lean that lists a variable, with what it lists TIED to the program's text (the seventh form; the later family's looks); each row that meets fmt, with fmt's text TOLD by the authors' own Lean function (tested against real Go, not proved from fmt's source: count such statements apart). THE CARD IS WHAT COUNTS. Prove the row's statement (the work); the ties are given (YtcanofailfbllaaDoorTie.lean); close each card by the builder's one call (the guide's Derived/Test/ToyasCard.lean, 'card_holds'). Laid BY PROGRAM, IN A SANDBOX (cutbox-door.mjs). By AI agents, Wed Nov 11 2026. No macro, syntax, notation, axiom, sorry.
-/
import Derived.Test.YtcanofailfbllaaDoorRows
import GoSem.ClaimSeven
namespace Go.Proofs.YtcanofailfbllaaDoor
namespace Rows

/-- THE TIED CARD OF 'laws.FnExactCountKinds'. -/
def fnExactCountKindsCard : Claim7 := { stood := { row := fnExactCountKindsRow, standIns := [], harness := (true, "eb636bd0f5b49204c54fec96a05f6f7077fe41c64bcd1122dab79bf0eea466f1"), looks := false }, kinds := [], alts := [], laidByText := true, laidKinds := [.data, .pinned], laidTests := true, laidLooks := .later }
def FnExactCountKindsCardSaid : Prop := Claim7.holds Tryd.pinned (.plain (OpenSpec.ofChange fnExactCountKindsSpec)) fnExactCountKindsCard

/-- THE TIED CARD OF 'laws.FnExactSameRank'. -/
def fnExactSameRankCard : Claim7 := { stood := { row := fnExactSameRankRow, standIns := [], harness := (true, "eb636bd0f5b49204c54fec96a05f6f7077fe41c64bcd1122dab79bf0eea466f1"), looks := false }, kinds := [], alts := [], laidByText := true, laidKinds := [.data, .pinned], laidTests := true, laidLooks := .later }
def FnExactSameRankCardSaid : Prop := Claim7.holds Tryd.pinned (.plain (OpenSpec.ofChange fnExactSameRankSpec)) fnExactSameRankCard

/-- THE TIED CARD OF 'laws.FnExactSecondWins'. -/
def fnExactSecondWinsCard : Claim7 := { stood := { row := fnExactSecondWinsRow, standIns := [], harness := (true, "eb636bd0f5b49204c54fec96a05f6f7077fe41c64bcd1122dab79bf0eea466f1"), looks := false }, kinds := [], alts := [], laidByText := true, laidKinds := [.data, .pinned], laidTests := true, laidLooks := .later }
def FnExactSecondWinsCardSaid : Prop := Claim7.holds Tryd.pinned (.plain (OpenSpec.ofChange fnExactSecondWinsSpec)) fnExactSecondWinsCard

/-- THE TIED CARD OF 'laws.FnExactWonRounds'. -/
def fnExactWonRoundsCard : Claim7 := { stood := { row := fnExactWonRoundsRow, standIns := [], harness := (true, "eb636bd0f5b49204c54fec96a05f6f7077fe41c64bcd1122dab79bf0eea466f1"), looks := false }, kinds := [], alts := [], laidByText := true, laidKinds := [.data, .pinned], laidTests := true, laidLooks := .later }
def FnExactWonRoundsCardSaid : Prop := Claim7.holds Tryd.pinned (.plain (OpenSpec.ofChange fnExactWonRoundsSpec)) fnExactWonRoundsCard

/-- THE TIED CARD OF 'laws.FnExactCountClasses'. -/
def fnExactCountClassesCard : Claim7 := { stood := { row := fnExactCountClassesRow, standIns := [], harness := (true, "eb636bd0f5b49204c54fec96a05f6f7077fe41c64bcd1122dab79bf0eea466f1"), looks := false }, kinds := [], alts := [], laidByText := true, laidKinds := [.data, .pinned], laidTests := true, laidLooks := .later }
def FnExactCountClassesCardSaid : Prop := Claim7.holds Tryd.pinned (.plain (OpenSpec.ofChange fnExactCountClassesSpec)) fnExactCountClassesCard

/-- THE TIED CARD OF 'laws.FnExactClassesOf'. -/
def fnExactClassesOfCard : Claim7 := { stood := { row := fnExactClassesOfRow, standIns := [], harness := (true, "eb636bd0f5b49204c54fec96a05f6f7077fe41c64bcd1122dab79bf0eea466f1"), looks := false }, kinds := [], alts := [], laidByText := true, laidKinds := [.data, .pinned], laidTests := true, laidLooks := .later }
def FnExactClassesOfCardSaid : Prop := Claim7.holds Tryd.pinned (.plain (OpenSpec.ofChange fnExactClassesOfSpec)) fnExactClassesOfCard

/-- THE TIED CARD OF 'laws.FnExactSecondReply'. -/
def fnExactSecondReplyCard : Claim7 := { stood := { row := fnExactSecondReplyRow, standIns := [], harness := (true, "eb636bd0f5b49204c54fec96a05f6f7077fe41c64bcd1122dab79bf0eea466f1"), looks := false }, kinds := [], alts := [], laidByText := true, laidKinds := [.data, .pinned], laidTests := true, laidLooks := .later }
def FnExactSecondReplyCardSaid : Prop := Claim7.holds Tryd.pinned (.plain (OpenSpec.ofChange fnExactSecondReplySpec)) fnExactSecondReplyCard

/-- THE TIED CARD OF 'laws.FnExactFirstMove'. -/
def fnExactFirstMoveCard : Claim7 := { stood := { row := fnExactFirstMoveRow, standIns := [], harness := (true, "eb636bd0f5b49204c54fec96a05f6f7077fe41c64bcd1122dab79bf0eea466f1"), looks := false }, kinds := [], alts := [], laidByText := true, laidKinds := [.data, .pinned], laidTests := true, laidLooks := .later }
def FnExactFirstMoveCardSaid : Prop := Claim7.holds Tryd.pinned (.plain (OpenSpec.ofChange fnExactFirstMoveSpec)) fnExactFirstMoveCard

/-- THE TIED CARD OF 'laws.FnLongest'. -/
def fnLongestCard : Claim7 := { stood := { row := fnLongestRow, standIns := [], harness := (true, "eb636bd0f5b49204c54fec96a05f6f7077fe41c64bcd1122dab79bf0eea466f1"), looks := false }, kinds := [], alts := [], laidByText := true, laidKinds := [.data, .pinned], laidTests := true, laidLooks := .later }
def FnLongestCardSaid : Prop := Claim7.holds Tryd.pinned (.plain (OpenSpec.ofChange fnLongestSpec)) fnLongestCard

/-- THE TIED CARD OF 'laws.FnPebblesFit'. -/
def fnPebblesFitCard : Claim7 := { stood := { row := fnPebblesFitRow, standIns := [], harness := (true, "eb636bd0f5b49204c54fec96a05f6f7077fe41c64bcd1122dab79bf0eea466f1"), looks := false }, kinds := [], alts := [], laidByText := true, laidKinds := [.data, .pinned], laidTests := true, laidLooks := .later }
def FnPebblesFitCardSaid : Prop := Claim7.holds Tryd.pinned (.plain (OpenSpec.ofChange fnPebblesFitSpec)) fnPebblesFitCard

/-- THE TIED CARD OF 'laws.FnAnswers'. -/
def fnAnswersCard : Claim7 := { stood := { row := fnAnswersRow, standIns := [], harness := (true, "eb636bd0f5b49204c54fec96a05f6f7077fe41c64bcd1122dab79bf0eea466f1"), looks := false }, kinds := [], alts := [], laidByText := true, laidKinds := [.data, .pinned], laidTests := true, laidLooks := .later }
def FnAnswersCardSaid : Prop := Claim7.holds Tryd.pinned (.plain (OpenSpec.ofChange fnAnswersSpec)) fnAnswersCard

/-- THE TIED CARD OF 'laws.FnSecondWins'. -/
def fnSecondWinsCard : Claim7 := { stood := { row := fnSecondWinsRow, standIns := [], harness := (true, "eb636bd0f5b49204c54fec96a05f6f7077fe41c64bcd1122dab79bf0eea466f1"), looks := false }, kinds := [], alts := [], laidByText := true, laidKinds := [.data, .pinned], laidTests := true, laidLooks := .later }
def FnSecondWinsCardSaid : Prop := Claim7.holds Tryd.pinned (.plain (OpenSpec.ofChange fnSecondWinsSpec)) fnSecondWinsCard

/-- THE SECOND FORM's CARD OF 'laws.FnExactCountKinds'. -/
def fnExactCountKindsUptoCard : Claim7 := { stood := { row := fnExactCountKindsUptoRow, standIns := [], harness := (true, "eb636bd0f5b49204c54fec96a05f6f7077fe41c64bcd1122dab79bf0eea466f1"), looks := false }, kinds := [], alts := [], laidByText := true, laidKinds := [.data, .pinned], laidTests := true, laidLooks := .later }
def FnExactCountKindsUptoCardSaid : Prop := Claim7.holds Tryd.pinned (.plain (OpenSpec.upto fnExactCountKindsSpec)) fnExactCountKindsUptoCard

/-- THE SECOND FORM's CARD OF 'laws.FnExactSameRank'. -/
def fnExactSameRankUptoCard : Claim7 := { stood := { row := fnExactSameRankUptoRow, standIns := [], harness := (true, "eb636bd0f5b49204c54fec96a05f6f7077fe41c64bcd1122dab79bf0eea466f1"), looks := false }, kinds := [], alts := [], laidByText := true, laidKinds := [.data, .pinned], laidTests := true, laidLooks := .later }
def FnExactSameRankUptoCardSaid : Prop := Claim7.holds Tryd.pinned (.plain (OpenSpec.upto fnExactSameRankSpec)) fnExactSameRankUptoCard

/-- THE SECOND FORM's CARD OF 'laws.FnExactSecondWins'. -/
def fnExactSecondWinsUptoCard : Claim7 := { stood := { row := fnExactSecondWinsUptoRow, standIns := [], harness := (true, "eb636bd0f5b49204c54fec96a05f6f7077fe41c64bcd1122dab79bf0eea466f1"), looks := false }, kinds := [], alts := [], laidByText := true, laidKinds := [.data, .pinned], laidTests := true, laidLooks := .later }
def FnExactSecondWinsUptoCardSaid : Prop := Claim7.holds Tryd.pinned (.plain (OpenSpec.upto fnExactSecondWinsSpec)) fnExactSecondWinsUptoCard

/-- THE SECOND FORM's CARD OF 'laws.FnExactWonRounds'. -/
def fnExactWonRoundsUptoCard : Claim7 := { stood := { row := fnExactWonRoundsUptoRow, standIns := [], harness := (true, "eb636bd0f5b49204c54fec96a05f6f7077fe41c64bcd1122dab79bf0eea466f1"), looks := false }, kinds := [], alts := [], laidByText := true, laidKinds := [.data, .pinned], laidTests := true, laidLooks := .later }
def FnExactWonRoundsUptoCardSaid : Prop := Claim7.holds Tryd.pinned (.plain (OpenSpec.upto fnExactWonRoundsSpec)) fnExactWonRoundsUptoCard

/-- THE SECOND FORM's CARD OF 'laws.FnExactCountClasses'. -/
def fnExactCountClassesUptoCard : Claim7 := { stood := { row := fnExactCountClassesUptoRow, standIns := [], harness := (true, "eb636bd0f5b49204c54fec96a05f6f7077fe41c64bcd1122dab79bf0eea466f1"), looks := false }, kinds := [], alts := [], laidByText := true, laidKinds := [.data, .pinned], laidTests := true, laidLooks := .later }
def FnExactCountClassesUptoCardSaid : Prop := Claim7.holds Tryd.pinned (.plain (OpenSpec.upto fnExactCountClassesSpec)) fnExactCountClassesUptoCard

/-- THE SECOND FORM's CARD OF 'laws.FnExactClassesOf'. -/
def fnExactClassesOfUptoCard : Claim7 := { stood := { row := fnExactClassesOfUptoRow, standIns := [], harness := (true, "eb636bd0f5b49204c54fec96a05f6f7077fe41c64bcd1122dab79bf0eea466f1"), looks := false }, kinds := [], alts := [], laidByText := true, laidKinds := [.data, .pinned], laidTests := true, laidLooks := .later }
def FnExactClassesOfUptoCardSaid : Prop := Claim7.holds Tryd.pinned (.plain (OpenSpec.upto fnExactClassesOfSpec)) fnExactClassesOfUptoCard

/-- THE SECOND FORM's CARD OF 'laws.FnExactSecondReply'. -/
def fnExactSecondReplyUptoCard : Claim7 := { stood := { row := fnExactSecondReplyUptoRow, standIns := [], harness := (true, "eb636bd0f5b49204c54fec96a05f6f7077fe41c64bcd1122dab79bf0eea466f1"), looks := false }, kinds := [], alts := [], laidByText := true, laidKinds := [.data, .pinned], laidTests := true, laidLooks := .later }
def FnExactSecondReplyUptoCardSaid : Prop := Claim7.holds Tryd.pinned (.plain (OpenSpec.upto fnExactSecondReplySpec)) fnExactSecondReplyUptoCard

/-- THE SECOND FORM's CARD OF 'laws.FnExactFirstMove'. -/
def fnExactFirstMoveUptoCard : Claim7 := { stood := { row := fnExactFirstMoveUptoRow, standIns := [], harness := (true, "eb636bd0f5b49204c54fec96a05f6f7077fe41c64bcd1122dab79bf0eea466f1"), looks := false }, kinds := [], alts := [], laidByText := true, laidKinds := [.data, .pinned], laidTests := true, laidLooks := .later }
def FnExactFirstMoveUptoCardSaid : Prop := Claim7.holds Tryd.pinned (.plain (OpenSpec.upto fnExactFirstMoveSpec)) fnExactFirstMoveUptoCard

/-- THE SECOND FORM's CARD OF 'laws.FnLongest'. -/
def fnLongestUptoCard : Claim7 := { stood := { row := fnLongestUptoRow, standIns := [], harness := (true, "eb636bd0f5b49204c54fec96a05f6f7077fe41c64bcd1122dab79bf0eea466f1"), looks := false }, kinds := [], alts := [], laidByText := true, laidKinds := [.data, .pinned], laidTests := true, laidLooks := .later }
def FnLongestUptoCardSaid : Prop := Claim7.holds Tryd.pinned (.plain (OpenSpec.upto fnLongestSpec)) fnLongestUptoCard

/-- THE SECOND FORM's CARD OF 'laws.FnPebblesFit'. -/
def fnPebblesFitUptoCard : Claim7 := { stood := { row := fnPebblesFitUptoRow, standIns := [], harness := (true, "eb636bd0f5b49204c54fec96a05f6f7077fe41c64bcd1122dab79bf0eea466f1"), looks := false }, kinds := [], alts := [], laidByText := true, laidKinds := [.data, .pinned], laidTests := true, laidLooks := .later }
def FnPebblesFitUptoCardSaid : Prop := Claim7.holds Tryd.pinned (.plain (OpenSpec.upto fnPebblesFitSpec)) fnPebblesFitUptoCard

/-- THE SECOND FORM's CARD OF 'laws.FnAnswers'. -/
def fnAnswersUptoCard : Claim7 := { stood := { row := fnAnswersUptoRow, standIns := [], harness := (true, "eb636bd0f5b49204c54fec96a05f6f7077fe41c64bcd1122dab79bf0eea466f1"), looks := false }, kinds := [], alts := [], laidByText := true, laidKinds := [.data, .pinned], laidTests := true, laidLooks := .later }
def FnAnswersUptoCardSaid : Prop := Claim7.holds Tryd.pinned (.plain (OpenSpec.upto fnAnswersSpec)) fnAnswersUptoCard

/-- THE SECOND FORM's CARD OF 'laws.FnSecondWins'. -/
def fnSecondWinsUptoCard : Claim7 := { stood := { row := fnSecondWinsUptoRow, standIns := [], harness := (true, "eb636bd0f5b49204c54fec96a05f6f7077fe41c64bcd1122dab79bf0eea466f1"), looks := false }, kinds := [], alts := [], laidByText := true, laidKinds := [.data, .pinned], laidTests := true, laidLooks := .later }
def FnSecondWinsUptoCardSaid : Prop := Claim7.holds Tryd.pinned (.plain (OpenSpec.upto fnSecondWinsSpec)) fnSecondWinsUptoCard
end Rows
end Go.Proofs.YtcanofailfbllaaDoor
