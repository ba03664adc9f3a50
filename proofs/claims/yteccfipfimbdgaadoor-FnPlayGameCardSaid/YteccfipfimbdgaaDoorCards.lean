/-
  DERIVED. GIVEN WITH THE SEED: THE CARDS: each row of YteccfipfimbdgaaDoorRows.lean that lists a variable, with what it lists TIED to the program's text (the seventh form; the later family's looks); each row that meets fmt, with fmt's text TOLD by the authors' own Lean function (tested against real Go, not proved from fmt's source: count such statements apart). THE CARD IS WHAT COUNTS. Prove the row's statement (the work); the ties are given (YteccfipfimbdgaaDoorTie.lean); close each card by the builder's one call (the guide's Derived/Test/ToyasCard.lean, 'card_holds'). Laid BY PROGRAM, IN A SANDBOX (cutbox-door.mjs). By AI agents, Wed Nov 11 2026. No macro, syntax, notation, axiom, sorry.
-/
import Derived.Test.YteccfipfimbdgaaDoorRows
import GoSem.ClaimSeven
namespace Go.Proofs.YteccfipfimbdgaaDoor
namespace Rows

/-- THE TIED CARD OF 'laws.FnTheory'. -/
def fnTheoryCard : Claim7 := { stood := { row := fnTheoryRow, standIns := [], harness := (true, "663986b8146755578b94cc443efcfa9918219b9d55385bc97ae4e2ac9cfee8fd"), looks := false }, kinds := [], alts := [], laidByText := true, laidKinds := [.data, .pinned], laidTests := true, laidLooks := .later }
def FnTheoryCardSaid : Prop := Claim7.holds Tryd.pinned (.plain (OpenSpec.ofChange fnTheorySpec)) fnTheoryCard

/-- THE TIED CARD OF 'laws.FnExactPlayGame'. -/
def fnExactPlayGameCard : Claim7 := { stood := { row := fnExactPlayGameRow, standIns := [], harness := (true, "663986b8146755578b94cc443efcfa9918219b9d55385bc97ae4e2ac9cfee8fd"), looks := false }, kinds := [], alts := [], laidByText := true, laidKinds := [.data, .listed, .data, .pinned], laidTests := true, laidLooks := .later }
def FnExactPlayGameCardSaid : Prop := Claim7.holds Tryd.pinned (.plain (OpenSpec.ofChange fnExactPlayGameSpec)) fnExactPlayGameCard

/-- THE TIED CARD OF 'laws.FnPlayGame'. -/
def fnPlayGameCard : Claim7 := { stood := { row := fnPlayGameRow, standIns := [], harness := (true, "663986b8146755578b94cc443efcfa9918219b9d55385bc97ae4e2ac9cfee8fd"), looks := false }, kinds := [], alts := [], laidByText := true, laidKinds := [.data, .listed, .data, .pinned], laidTests := true, laidLooks := .later }
def FnPlayGameCardSaid : Prop := Claim7.holds Tryd.pinned (.plain (OpenSpec.ofChange fnPlayGameSpec)) fnPlayGameCard

/-- THE TIED CARD OF 'laws.FnExactCountingWins'. -/
def fnExactCountingWinsCard : Claim7 := { stood := { row := fnExactCountingWinsRow, standIns := [], harness := (true, "663986b8146755578b94cc443efcfa9918219b9d55385bc97ae4e2ac9cfee8fd"), looks := false }, kinds := [], alts := [], laidByText := true, laidKinds := [.data, .pinned], laidTests := true, laidLooks := .later }
def FnExactCountingWinsCardSaid : Prop := Claim7.holds Tryd.pinned (.plain (OpenSpec.ofChange fnExactCountingWinsSpec)) fnExactCountingWinsCard

/-- THE TIED CARD OF 'laws.FnExactCountingForever'. -/
def fnExactCountingForeverCard : Claim7 := { stood := { row := fnExactCountingForeverRow, standIns := [], harness := (true, "663986b8146755578b94cc443efcfa9918219b9d55385bc97ae4e2ac9cfee8fd"), looks := false }, kinds := [], alts := [], laidByText := true, laidKinds := [.data, .pinned], laidTests := true, laidLooks := .later }
def FnExactCountingForeverCardSaid : Prop := Claim7.holds Tryd.pinned (.plain (OpenSpec.ofChange fnExactCountingForeverSpec)) fnExactCountingForeverCard

/-- THE SECOND FORM's CARD OF 'laws.FnTheory'. -/
def fnTheoryUptoCard : Claim7 := { stood := { row := fnTheoryUptoRow, standIns := [], harness := (true, "663986b8146755578b94cc443efcfa9918219b9d55385bc97ae4e2ac9cfee8fd"), looks := false }, kinds := [], alts := [], laidByText := true, laidKinds := [.data, .pinned], laidTests := true, laidLooks := .later }
def FnTheoryUptoCardSaid : Prop := Claim7.holds Tryd.pinned (.plain (OpenSpec.upto fnTheorySpec)) fnTheoryUptoCard

/-- THE SECOND FORM's CARD OF 'laws.FnExactPlayGame'. -/
def fnExactPlayGameUptoCard : Claim7 := { stood := { row := fnExactPlayGameUptoRow, standIns := [], harness := (true, "663986b8146755578b94cc443efcfa9918219b9d55385bc97ae4e2ac9cfee8fd"), looks := false }, kinds := [], alts := [], laidByText := true, laidKinds := [.data, .listed, .data, .pinned], laidTests := true, laidLooks := .later }
def FnExactPlayGameUptoCardSaid : Prop := Claim7.holds Tryd.pinned (.plain (OpenSpec.upto fnExactPlayGameSpec)) fnExactPlayGameUptoCard

/-- THE SECOND FORM's CARD OF 'laws.FnPlayGame'. -/
def fnPlayGameUptoCard : Claim7 := { stood := { row := fnPlayGameUptoRow, standIns := [], harness := (true, "663986b8146755578b94cc443efcfa9918219b9d55385bc97ae4e2ac9cfee8fd"), looks := false }, kinds := [], alts := [], laidByText := true, laidKinds := [.data, .listed, .data, .pinned], laidTests := true, laidLooks := .later }
def FnPlayGameUptoCardSaid : Prop := Claim7.holds Tryd.pinned (.plain (OpenSpec.upto fnPlayGameSpec)) fnPlayGameUptoCard

/-- THE SECOND FORM's CARD OF 'laws.FnExactCountingWins'. -/
def fnExactCountingWinsUptoCard : Claim7 := { stood := { row := fnExactCountingWinsUptoRow, standIns := [], harness := (true, "663986b8146755578b94cc443efcfa9918219b9d55385bc97ae4e2ac9cfee8fd"), looks := false }, kinds := [], alts := [], laidByText := true, laidKinds := [.data, .pinned], laidTests := true, laidLooks := .later }
def FnExactCountingWinsUptoCardSaid : Prop := Claim7.holds Tryd.pinned (.plain (OpenSpec.upto fnExactCountingWinsSpec)) fnExactCountingWinsUptoCard

/-- THE SECOND FORM's CARD OF 'laws.FnExactCountingForever'. -/
def fnExactCountingForeverUptoCard : Claim7 := { stood := { row := fnExactCountingForeverUptoRow, standIns := [], harness := (true, "663986b8146755578b94cc443efcfa9918219b9d55385bc97ae4e2ac9cfee8fd"), looks := false }, kinds := [], alts := [], laidByText := true, laidKinds := [.data, .pinned], laidTests := true, laidLooks := .later }
def FnExactCountingForeverUptoCardSaid : Prop := Claim7.holds Tryd.pinned (.plain (OpenSpec.upto fnExactCountingForeverSpec)) fnExactCountingForeverUptoCard
end Rows
end Go.Proofs.YteccfipfimbdgaaDoor
