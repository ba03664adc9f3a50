/-
  DERIVED. GIVEN WITH THE SEED: THE CARDS: each row of YtnfkmfdhmlombaaDoorRows.lean that lists a variable, with what it lists TIED to the program's text (the seventh form; the later family's looks); each row that meets fmt, with fmt's text TOLD by the authors' own Lean function (tested against real Go, not proved from fmt's source: count such statements apart). THE CARD IS WHAT COUNTS. Prove the row's statement (the work); the ties are given (YtnfkmfdhmlombaaDoorTie.lean); close each card by the builder's one call (the guide's Derived/Test/ToyasCard.lean, 'card_holds'). Laid BY PROGRAM, IN A SANDBOX (cutbox-door.mjs). By AI agents, Wed Nov 11 2026. No macro, syntax, notation, axiom, sorry.
-/
import Derived.Test.YtnfkmfdhmlombaaDoorRows
import GoSem.ClaimSeven
namespace Go.Proofs.YtnfkmfdhmlombaaDoor
namespace Rows

/-- THE TIED CARD OF 'laws.FnExactPlayGame'. -/
def fnExactPlayGameCard : Claim7 := { stood := { row := fnExactPlayGameRow, standIns := [], harness := (true, "b04d279ed51f9033b0f77128f9375087040288d2a72d05b5c46893cadf6e361f"), looks := false }, kinds := [], alts := [], laidByText := true, laidKinds := [.data, .listed, .data, .pinned], laidTests := true, laidLooks := .later }
def FnExactPlayGameCardSaid : Prop := Claim7.holds Tryd.pinned (.plain (OpenSpec.ofChange fnExactPlayGameSpec)) fnExactPlayGameCard

/-- THE TIED CARD OF 'laws.FnPlayGame'. -/
def fnPlayGameCard : Claim7 := { stood := { row := fnPlayGameRow, standIns := [], harness := (true, "b04d279ed51f9033b0f77128f9375087040288d2a72d05b5c46893cadf6e361f"), looks := false }, kinds := [], alts := [], laidByText := true, laidKinds := [.data, .listed, .data, .pinned], laidTests := true, laidLooks := .later }
def FnPlayGameCardSaid : Prop := Claim7.holds Tryd.pinned (.plain (OpenSpec.ofChange fnPlayGameSpec)) fnPlayGameCard

/-- THE TIED CARD OF 'laws.FnExactCountingWins'. -/
def fnExactCountingWinsCard : Claim7 := { stood := { row := fnExactCountingWinsRow, standIns := [], harness := (true, "b04d279ed51f9033b0f77128f9375087040288d2a72d05b5c46893cadf6e361f"), looks := false }, kinds := [], alts := [], laidByText := true, laidKinds := [.data, .pinned], laidTests := true, laidLooks := .later }
def FnExactCountingWinsCardSaid : Prop := Claim7.holds Tryd.pinned (.plain (OpenSpec.ofChange fnExactCountingWinsSpec)) fnExactCountingWinsCard

/-- THE TIED CARD OF 'laws.FnExactCountingForever'. -/
def fnExactCountingForeverCard : Claim7 := { stood := { row := fnExactCountingForeverRow, standIns := [], harness := (true, "b04d279ed51f9033b0f77128f9375087040288d2a72d05b5c46893cadf6e361f"), looks := false }, kinds := [], alts := [], laidByText := true, laidKinds := [.data, .pinned], laidTests := true, laidLooks := .later }
def FnExactCountingForeverCardSaid : Prop := Claim7.holds Tryd.pinned (.plain (OpenSpec.ofChange fnExactCountingForeverSpec)) fnExactCountingForeverCard

/-- THE TIED CARD OF 'laws.FnExactSeparates'. -/
def fnExactSeparatesCard : Claim7 := { stood := { row := fnExactSeparatesRow, standIns := [], harness := (true, "b04d279ed51f9033b0f77128f9375087040288d2a72d05b5c46893cadf6e361f"), looks := false }, kinds := [], alts := [], laidByText := true, laidKinds := [.data, .pinned], laidTests := true, laidLooks := .later }
def FnExactSeparatesCardSaid : Prop := Claim7.holds Tryd.pinned (.plain (OpenSpec.ofChange fnExactSeparatesSpec)) fnExactSeparatesCard

/-- THE TIED CARD OF 'laws.FnExactTheoryOf'. -/
def fnExactTheoryOfCard : Claim7 := { stood := { row := fnExactTheoryOfRow, standIns := [], harness := (true, "b04d279ed51f9033b0f77128f9375087040288d2a72d05b5c46893cadf6e361f"), looks := false }, kinds := [], alts := [], laidByText := true, laidKinds := [.data, .pinned], laidTests := true, laidLooks := .later }
def FnExactTheoryOfCardSaid : Prop := Claim7.holds Tryd.pinned (.plain (OpenSpec.ofChange fnExactTheoryOfSpec)) fnExactTheoryOfCard

/-- THE TIED CARD OF 'laws.FnExactAgreeUpTo'. -/
def fnExactAgreeUpToCard : Claim7 := { stood := { row := fnExactAgreeUpToRow, standIns := [], harness := (true, "b04d279ed51f9033b0f77128f9375087040288d2a72d05b5c46893cadf6e361f"), looks := false }, kinds := [], alts := [], laidByText := true, laidKinds := [.data, .pinned], laidTests := true, laidLooks := .later }
def FnExactAgreeUpToCardSaid : Prop := Claim7.holds Tryd.pinned (.plain (OpenSpec.ofChange fnExactAgreeUpToSpec)) fnExactAgreeUpToCard

/-- THE TIED CARD OF 'laws.FnSpread'. -/
def fnSpreadCard : Claim7 := { stood := { row := fnSpreadRow, standIns := [], harness := (true, "b04d279ed51f9033b0f77128f9375087040288d2a72d05b5c46893cadf6e361f"), looks := false }, kinds := [], alts := [], laidByText := true, laidKinds := [.data, .pinned], laidTests := true, laidLooks := .later }
def FnSpreadCardSaid : Prop := Claim7.holds Tryd.pinned (.plain (OpenSpec.ofChange fnSpreadSpec)) fnSpreadCard

/-- THE TIED CARD OF 'laws.FnIsPartial'. -/
def fnIsPartialCard : Claim7 := { stood := { row := fnIsPartialRow, standIns := [], harness := (true, "b04d279ed51f9033b0f77128f9375087040288d2a72d05b5c46893cadf6e361f"), looks := false }, kinds := [], alts := [], laidByText := true, laidKinds := [.data, .pinned], laidTests := true, laidLooks := .later }
def FnIsPartialCardSaid : Prop := Claim7.holds Tryd.pinned (.plain (OpenSpec.ofChange fnIsPartialSpec)) fnIsPartialCard

/-- THE TIED CARD OF 'laws.FnAtomsOf'. -/
def fnAtomsOfCard : Claim7 := { stood := { row := fnAtomsOfRow, standIns := [], harness := (true, "b04d279ed51f9033b0f77128f9375087040288d2a72d05b5c46893cadf6e361f"), looks := false }, kinds := [], alts := [], laidByText := true, laidKinds := [.data, .pinned], laidTests := true, laidLooks := .later }
def FnAtomsOfCardSaid : Prop := Claim7.holds Tryd.pinned (.plain (OpenSpec.ofChange fnAtomsOfSpec)) fnAtomsOfCard

/-- THE SECOND FORM's CARD OF 'laws.FnExactPlayGame'. -/
def fnExactPlayGameUptoCard : Claim7 := { stood := { row := fnExactPlayGameUptoRow, standIns := [], harness := (true, "b04d279ed51f9033b0f77128f9375087040288d2a72d05b5c46893cadf6e361f"), looks := false }, kinds := [], alts := [], laidByText := true, laidKinds := [.data, .listed, .data, .pinned], laidTests := true, laidLooks := .later }
def FnExactPlayGameUptoCardSaid : Prop := Claim7.holds Tryd.pinned (.plain (OpenSpec.upto fnExactPlayGameSpec)) fnExactPlayGameUptoCard

/-- THE SECOND FORM's CARD OF 'laws.FnPlayGame'. -/
def fnPlayGameUptoCard : Claim7 := { stood := { row := fnPlayGameUptoRow, standIns := [], harness := (true, "b04d279ed51f9033b0f77128f9375087040288d2a72d05b5c46893cadf6e361f"), looks := false }, kinds := [], alts := [], laidByText := true, laidKinds := [.data, .listed, .data, .pinned], laidTests := true, laidLooks := .later }
def FnPlayGameUptoCardSaid : Prop := Claim7.holds Tryd.pinned (.plain (OpenSpec.upto fnPlayGameSpec)) fnPlayGameUptoCard

/-- THE SECOND FORM's CARD OF 'laws.FnExactCountingWins'. -/
def fnExactCountingWinsUptoCard : Claim7 := { stood := { row := fnExactCountingWinsUptoRow, standIns := [], harness := (true, "b04d279ed51f9033b0f77128f9375087040288d2a72d05b5c46893cadf6e361f"), looks := false }, kinds := [], alts := [], laidByText := true, laidKinds := [.data, .pinned], laidTests := true, laidLooks := .later }
def FnExactCountingWinsUptoCardSaid : Prop := Claim7.holds Tryd.pinned (.plain (OpenSpec.upto fnExactCountingWinsSpec)) fnExactCountingWinsUptoCard

/-- THE SECOND FORM's CARD OF 'laws.FnExactCountingForever'. -/
def fnExactCountingForeverUptoCard : Claim7 := { stood := { row := fnExactCountingForeverUptoRow, standIns := [], harness := (true, "b04d279ed51f9033b0f77128f9375087040288d2a72d05b5c46893cadf6e361f"), looks := false }, kinds := [], alts := [], laidByText := true, laidKinds := [.data, .pinned], laidTests := true, laidLooks := .later }
def FnExactCountingForeverUptoCardSaid : Prop := Claim7.holds Tryd.pinned (.plain (OpenSpec.upto fnExactCountingForeverSpec)) fnExactCountingForeverUptoCard

/-- THE SECOND FORM's CARD OF 'laws.FnExactSeparates'. -/
def fnExactSeparatesUptoCard : Claim7 := { stood := { row := fnExactSeparatesUptoRow, standIns := [], harness := (true, "b04d279ed51f9033b0f77128f9375087040288d2a72d05b5c46893cadf6e361f"), looks := false }, kinds := [], alts := [], laidByText := true, laidKinds := [.data, .pinned], laidTests := true, laidLooks := .later }
def FnExactSeparatesUptoCardSaid : Prop := Claim7.holds Tryd.pinned (.plain (OpenSpec.upto fnExactSeparatesSpec)) fnExactSeparatesUptoCard

/-- THE SECOND FORM's CARD OF 'laws.FnExactTheoryOf'. -/
def fnExactTheoryOfUptoCard : Claim7 := { stood := { row := fnExactTheoryOfUptoRow, standIns := [], harness := (true, "b04d279ed51f9033b0f77128f9375087040288d2a72d05b5c46893cadf6e361f"), looks := false }, kinds := [], alts := [], laidByText := true, laidKinds := [.data, .pinned], laidTests := true, laidLooks := .later }
def FnExactTheoryOfUptoCardSaid : Prop := Claim7.holds Tryd.pinned (.plain (OpenSpec.upto fnExactTheoryOfSpec)) fnExactTheoryOfUptoCard

/-- THE SECOND FORM's CARD OF 'laws.FnExactAgreeUpTo'. -/
def fnExactAgreeUpToUptoCard : Claim7 := { stood := { row := fnExactAgreeUpToUptoRow, standIns := [], harness := (true, "b04d279ed51f9033b0f77128f9375087040288d2a72d05b5c46893cadf6e361f"), looks := false }, kinds := [], alts := [], laidByText := true, laidKinds := [.data, .pinned], laidTests := true, laidLooks := .later }
def FnExactAgreeUpToUptoCardSaid : Prop := Claim7.holds Tryd.pinned (.plain (OpenSpec.upto fnExactAgreeUpToSpec)) fnExactAgreeUpToUptoCard

/-- THE SECOND FORM's CARD OF 'laws.FnSpread'. -/
def fnSpreadUptoCard : Claim7 := { stood := { row := fnSpreadUptoRow, standIns := [], harness := (true, "b04d279ed51f9033b0f77128f9375087040288d2a72d05b5c46893cadf6e361f"), looks := false }, kinds := [], alts := [], laidByText := true, laidKinds := [.data, .pinned], laidTests := true, laidLooks := .later }
def FnSpreadUptoCardSaid : Prop := Claim7.holds Tryd.pinned (.plain (OpenSpec.upto fnSpreadSpec)) fnSpreadUptoCard

/-- THE SECOND FORM's CARD OF 'laws.FnIsPartial'. -/
def fnIsPartialUptoCard : Claim7 := { stood := { row := fnIsPartialUptoRow, standIns := [], harness := (true, "b04d279ed51f9033b0f77128f9375087040288d2a72d05b5c46893cadf6e361f"), looks := false }, kinds := [], alts := [], laidByText := true, laidKinds := [.data, .pinned], laidTests := true, laidLooks := .later }
def FnIsPartialUptoCardSaid : Prop := Claim7.holds Tryd.pinned (.plain (OpenSpec.upto fnIsPartialSpec)) fnIsPartialUptoCard

/-- THE SECOND FORM's CARD OF 'laws.FnAtomsOf'. -/
def fnAtomsOfUptoCard : Claim7 := { stood := { row := fnAtomsOfUptoRow, standIns := [], harness := (true, "b04d279ed51f9033b0f77128f9375087040288d2a72d05b5c46893cadf6e361f"), looks := false }, kinds := [], alts := [], laidByText := true, laidKinds := [.data, .pinned], laidTests := true, laidLooks := .later }
def FnAtomsOfUptoCardSaid : Prop := Claim7.holds Tryd.pinned (.plain (OpenSpec.upto fnAtomsOfSpec)) fnAtomsOfUptoCard
end Rows
end Go.Proofs.YtnfkmfdhmlombaaDoor
