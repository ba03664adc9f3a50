/-
  DERIVED. GIVEN WITH THE SEED: THE CARDS: each row of YtefiibghfgfdnaaDoorRows.lean that lists a variable, with what it lists TIED to the program's text (the seventh form; the later family's looks); each row that meets fmt, with fmt's text TOLD by the authors' own Lean function (tested against real Go, not proved from fmt's source: count such statements apart). THE CARD IS WHAT COUNTS. Prove the row's statement (the work); the ties are given (YtefiibghfgfdnaaDoorTie.lean); close each card by the builder's one call (the guide's Derived/Test/ToyasCard.lean, 'card_holds'). Laid BY PROGRAM, IN A SANDBOX (cutbox-door.mjs). By AI agents, Wed Nov 11 2026. No macro, syntax, notation, axiom, sorry.
-/
import Derived.Test.YtefiibghfgfdnaaDoorRows
import GoSem.ClaimSeven
namespace Go.Proofs.YtefiibghfgfdnaaDoor
namespace Rows

/-- THE TIED CARD OF 'laws.FnTheory'. -/
def fnTheoryCard : Claim7 := { stood := { row := fnTheoryRow, standIns := [], harness := (true, "53f5b70829ddc7f0eac2ed0a11abfbd849909b015088548c1c4dd8baf2590e8e"), looks := false }, kinds := [], alts := [], laidByText := true, laidKinds := [.data, .pinned], laidTests := true, laidLooks := .later }
def FnTheoryCardSaid : Prop := Claim7.holds Tryd.pinned (.plain (OpenSpec.ofChange fnTheorySpec)) fnTheoryCard

/-- THE TIED CARD OF 'laws.FnDefinedSet'. -/
def fnDefinedSetCard : Claim7 := { stood := { row := fnDefinedSetRow, standIns := [], harness := (true, "53f5b70829ddc7f0eac2ed0a11abfbd849909b015088548c1c4dd8baf2590e8e"), looks := false }, kinds := [], alts := [], laidByText := true, laidKinds := [.data, .pinned], laidTests := true, laidLooks := .later }
def FnDefinedSetCardSaid : Prop := Claim7.holds Tryd.pinned (.plain (OpenSpec.ofChange fnDefinedSetSpec)) fnDefinedSetCard

/-- THE TIED CARD OF 'laws.FnAtomsOf'. -/
def fnAtomsOfCard : Claim7 := { stood := { row := fnAtomsOfRow, standIns := [], harness := (true, "53f5b70829ddc7f0eac2ed0a11abfbd849909b015088548c1c4dd8baf2590e8e"), looks := false }, kinds := [], alts := [], laidByText := true, laidKinds := [.data, .pinned], laidTests := true, laidLooks := .later }
def FnAtomsOfCardSaid : Prop := Claim7.holds Tryd.pinned (.plain (OpenSpec.ofChange fnAtomsOfSpec)) fnAtomsOfCard

/-- THE TIED CARD OF 'laws.FnSpread'. -/
def fnSpreadCard : Claim7 := { stood := { row := fnSpreadRow, standIns := [], harness := (true, "53f5b70829ddc7f0eac2ed0a11abfbd849909b015088548c1c4dd8baf2590e8e"), looks := false }, kinds := [], alts := [], laidByText := true, laidKinds := [.data, .pinned], laidTests := true, laidLooks := .later }
def FnSpreadCardSaid : Prop := Claim7.holds Tryd.pinned (.plain (OpenSpec.ofChange fnSpreadSpec)) fnSpreadCard

/-- THE TIED CARD OF 'laws.FnExactPlayGame'. -/
def fnExactPlayGameCard : Claim7 := { stood := { row := fnExactPlayGameRow, standIns := [], harness := (true, "53f5b70829ddc7f0eac2ed0a11abfbd849909b015088548c1c4dd8baf2590e8e"), looks := false }, kinds := [], alts := [], laidByText := true, laidKinds := [.data, .listed, .data, .pinned], laidTests := true, laidLooks := .later }
def FnExactPlayGameCardSaid : Prop := Claim7.holds Tryd.pinned (.plain (OpenSpec.ofChange fnExactPlayGameSpec)) fnExactPlayGameCard

/-- THE TIED CARD OF 'laws.FnPlayGame'. -/
def fnPlayGameCard : Claim7 := { stood := { row := fnPlayGameRow, standIns := [], harness := (true, "53f5b70829ddc7f0eac2ed0a11abfbd849909b015088548c1c4dd8baf2590e8e"), looks := false }, kinds := [], alts := [], laidByText := true, laidKinds := [.data, .listed, .data, .pinned], laidTests := true, laidLooks := .later }
def FnPlayGameCardSaid : Prop := Claim7.holds Tryd.pinned (.plain (OpenSpec.ofChange fnPlayGameSpec)) fnPlayGameCard

/-- THE TIED CARD OF 'laws.FnExactCountingWins'. -/
def fnExactCountingWinsCard : Claim7 := { stood := { row := fnExactCountingWinsRow, standIns := [], harness := (true, "53f5b70829ddc7f0eac2ed0a11abfbd849909b015088548c1c4dd8baf2590e8e"), looks := false }, kinds := [], alts := [], laidByText := true, laidKinds := [.data, .pinned], laidTests := true, laidLooks := .later }
def FnExactCountingWinsCardSaid : Prop := Claim7.holds Tryd.pinned (.plain (OpenSpec.ofChange fnExactCountingWinsSpec)) fnExactCountingWinsCard

/-- THE SECOND FORM's CARD OF 'laws.FnTheory'. -/
def fnTheoryUptoCard : Claim7 := { stood := { row := fnTheoryUptoRow, standIns := [], harness := (true, "53f5b70829ddc7f0eac2ed0a11abfbd849909b015088548c1c4dd8baf2590e8e"), looks := false }, kinds := [], alts := [], laidByText := true, laidKinds := [.data, .pinned], laidTests := true, laidLooks := .later }
def FnTheoryUptoCardSaid : Prop := Claim7.holds Tryd.pinned (.plain (OpenSpec.upto fnTheorySpec)) fnTheoryUptoCard

/-- THE SECOND FORM's CARD OF 'laws.FnDefinedSet'. -/
def fnDefinedSetUptoCard : Claim7 := { stood := { row := fnDefinedSetUptoRow, standIns := [], harness := (true, "53f5b70829ddc7f0eac2ed0a11abfbd849909b015088548c1c4dd8baf2590e8e"), looks := false }, kinds := [], alts := [], laidByText := true, laidKinds := [.data, .pinned], laidTests := true, laidLooks := .later }
def FnDefinedSetUptoCardSaid : Prop := Claim7.holds Tryd.pinned (.plain (OpenSpec.upto fnDefinedSetSpec)) fnDefinedSetUptoCard

/-- THE SECOND FORM's CARD OF 'laws.FnAtomsOf'. -/
def fnAtomsOfUptoCard : Claim7 := { stood := { row := fnAtomsOfUptoRow, standIns := [], harness := (true, "53f5b70829ddc7f0eac2ed0a11abfbd849909b015088548c1c4dd8baf2590e8e"), looks := false }, kinds := [], alts := [], laidByText := true, laidKinds := [.data, .pinned], laidTests := true, laidLooks := .later }
def FnAtomsOfUptoCardSaid : Prop := Claim7.holds Tryd.pinned (.plain (OpenSpec.upto fnAtomsOfSpec)) fnAtomsOfUptoCard

/-- THE SECOND FORM's CARD OF 'laws.FnSpread'. -/
def fnSpreadUptoCard : Claim7 := { stood := { row := fnSpreadUptoRow, standIns := [], harness := (true, "53f5b70829ddc7f0eac2ed0a11abfbd849909b015088548c1c4dd8baf2590e8e"), looks := false }, kinds := [], alts := [], laidByText := true, laidKinds := [.data, .pinned], laidTests := true, laidLooks := .later }
def FnSpreadUptoCardSaid : Prop := Claim7.holds Tryd.pinned (.plain (OpenSpec.upto fnSpreadSpec)) fnSpreadUptoCard

/-- THE SECOND FORM's CARD OF 'laws.FnExactPlayGame'. -/
def fnExactPlayGameUptoCard : Claim7 := { stood := { row := fnExactPlayGameUptoRow, standIns := [], harness := (true, "53f5b70829ddc7f0eac2ed0a11abfbd849909b015088548c1c4dd8baf2590e8e"), looks := false }, kinds := [], alts := [], laidByText := true, laidKinds := [.data, .listed, .data, .pinned], laidTests := true, laidLooks := .later }
def FnExactPlayGameUptoCardSaid : Prop := Claim7.holds Tryd.pinned (.plain (OpenSpec.upto fnExactPlayGameSpec)) fnExactPlayGameUptoCard

/-- THE SECOND FORM's CARD OF 'laws.FnPlayGame'. -/
def fnPlayGameUptoCard : Claim7 := { stood := { row := fnPlayGameUptoRow, standIns := [], harness := (true, "53f5b70829ddc7f0eac2ed0a11abfbd849909b015088548c1c4dd8baf2590e8e"), looks := false }, kinds := [], alts := [], laidByText := true, laidKinds := [.data, .listed, .data, .pinned], laidTests := true, laidLooks := .later }
def FnPlayGameUptoCardSaid : Prop := Claim7.holds Tryd.pinned (.plain (OpenSpec.upto fnPlayGameSpec)) fnPlayGameUptoCard

/-- THE SECOND FORM's CARD OF 'laws.FnExactCountingWins'. -/
def fnExactCountingWinsUptoCard : Claim7 := { stood := { row := fnExactCountingWinsUptoRow, standIns := [], harness := (true, "53f5b70829ddc7f0eac2ed0a11abfbd849909b015088548c1c4dd8baf2590e8e"), looks := false }, kinds := [], alts := [], laidByText := true, laidKinds := [.data, .pinned], laidTests := true, laidLooks := .later }
def FnExactCountingWinsUptoCardSaid : Prop := Claim7.holds Tryd.pinned (.plain (OpenSpec.upto fnExactCountingWinsSpec)) fnExactCountingWinsUptoCard
end Rows
end Go.Proofs.YtefiibghfgfdnaaDoor
