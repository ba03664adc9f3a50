/-
  DERIVED. GIVEN WITH THE SEED: THE CARDS: each row of YtagbocafnliabaaDoorRows.lean that lists a variable, with what it lists TIED to the program's text (the seventh form; the later family's looks); each row that meets fmt, with fmt's text TOLD by the authors' own Lean function (tested against real Go, not proved from fmt's source: count such statements apart). THE CARD IS WHAT COUNTS. Prove the row's statement (the work); the ties are given (YtagbocafnliabaaDoorTie.lean); close each card by the builder's one call (the guide's Derived/Test/ToyasCard.lean, 'card_holds'). Laid BY PROGRAM, IN A SANDBOX (cutbox-door.mjs). By AI agents, Wed Nov 11 2026. No macro, syntax, notation, axiom, sorry.
-/
import Derived.Test.YtagbocafnliabaaDoorRows
import GoSem.ClaimSeven
namespace Go.Proofs.YtagbocafnliabaaDoor
namespace Rows

/-- THE TIED CARD OF 'laws.FnClasses'. -/
def fnClassesCard : Claim7 := { stood := { row := fnClassesRow, standIns := [], harness := (true, "908fabe19c781d8a2512518fe8abf54f93b004e1a9900091e8e5345bab0ca794"), looks := false }, kinds := [], alts := [], laidByText := true, laidKinds := [.data, .pinned], laidTests := true, laidLooks := .later }
def FnClassesCardSaid : Prop := Claim7.holds Tryd.pinned (.plain (OpenSpec.ofChange fnClassesSpec)) fnClassesCard

/-- THE TIED CARD OF 'laws.FnWonRounds'. -/
def fnWonRoundsCard : Claim7 := { stood := { row := fnWonRoundsRow, standIns := [], harness := (true, "908fabe19c781d8a2512518fe8abf54f93b004e1a9900091e8e5345bab0ca794"), looks := false }, kinds := [], alts := [], laidByText := true, laidKinds := [.data, .pinned], laidTests := true, laidLooks := .later }
def FnWonRoundsCardSaid : Prop := Claim7.holds Tryd.pinned (.plain (OpenSpec.ofChange fnWonRoundsSpec)) fnWonRoundsCard

/-- THE TIED CARD OF 'laws.FnTurnsToWin'. -/
def fnTurnsToWinCard : Claim7 := { stood := { row := fnTurnsToWinRow, standIns := [], harness := (true, "908fabe19c781d8a2512518fe8abf54f93b004e1a9900091e8e5345bab0ca794"), looks := false }, kinds := [], alts := [], laidByText := true, laidKinds := [.data, .pinned], laidTests := true, laidLooks := .later }
def FnTurnsToWinCardSaid : Prop := Claim7.holds Tryd.pinned (.plain (OpenSpec.ofChange fnTurnsToWinSpec)) fnTurnsToWinCard

/-- THE TIED CARD OF 'laws.FnDefinedSet'. -/
def fnDefinedSetCard : Claim7 := { stood := { row := fnDefinedSetRow, standIns := [], harness := (true, "908fabe19c781d8a2512518fe8abf54f93b004e1a9900091e8e5345bab0ca794"), looks := false }, kinds := [], alts := [], laidByText := true, laidKinds := [.data, .pinned], laidTests := true, laidLooks := .later }
def FnDefinedSetCardSaid : Prop := Claim7.holds Tryd.pinned (.plain (OpenSpec.ofChange fnDefinedSetSpec)) fnDefinedSetCard

/-- THE SECOND FORM's CARD OF 'laws.FnClasses'. -/
def fnClassesUptoCard : Claim7 := { stood := { row := fnClassesUptoRow, standIns := [], harness := (true, "908fabe19c781d8a2512518fe8abf54f93b004e1a9900091e8e5345bab0ca794"), looks := false }, kinds := [], alts := [], laidByText := true, laidKinds := [.data, .pinned], laidTests := true, laidLooks := .later }
def FnClassesUptoCardSaid : Prop := Claim7.holds Tryd.pinned (.plain (OpenSpec.upto fnClassesSpec)) fnClassesUptoCard

/-- THE SECOND FORM's CARD OF 'laws.FnWonRounds'. -/
def fnWonRoundsUptoCard : Claim7 := { stood := { row := fnWonRoundsUptoRow, standIns := [], harness := (true, "908fabe19c781d8a2512518fe8abf54f93b004e1a9900091e8e5345bab0ca794"), looks := false }, kinds := [], alts := [], laidByText := true, laidKinds := [.data, .pinned], laidTests := true, laidLooks := .later }
def FnWonRoundsUptoCardSaid : Prop := Claim7.holds Tryd.pinned (.plain (OpenSpec.upto fnWonRoundsSpec)) fnWonRoundsUptoCard

/-- THE SECOND FORM's CARD OF 'laws.FnTurnsToWin'. -/
def fnTurnsToWinUptoCard : Claim7 := { stood := { row := fnTurnsToWinUptoRow, standIns := [], harness := (true, "908fabe19c781d8a2512518fe8abf54f93b004e1a9900091e8e5345bab0ca794"), looks := false }, kinds := [], alts := [], laidByText := true, laidKinds := [.data, .pinned], laidTests := true, laidLooks := .later }
def FnTurnsToWinUptoCardSaid : Prop := Claim7.holds Tryd.pinned (.plain (OpenSpec.upto fnTurnsToWinSpec)) fnTurnsToWinUptoCard

/-- THE SECOND FORM's CARD OF 'laws.FnDefinedSet'. -/
def fnDefinedSetUptoCard : Claim7 := { stood := { row := fnDefinedSetUptoRow, standIns := [], harness := (true, "908fabe19c781d8a2512518fe8abf54f93b004e1a9900091e8e5345bab0ca794"), looks := false }, kinds := [], alts := [], laidByText := true, laidKinds := [.data, .pinned], laidTests := true, laidLooks := .later }
def FnDefinedSetUptoCardSaid : Prop := Claim7.holds Tryd.pinned (.plain (OpenSpec.upto fnDefinedSetSpec)) fnDefinedSetUptoCard
end Rows
end Go.Proofs.YtagbocafnliabaaDoor
