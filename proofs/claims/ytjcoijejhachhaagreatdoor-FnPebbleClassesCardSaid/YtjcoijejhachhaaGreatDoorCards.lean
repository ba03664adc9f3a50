/-
  DERIVED. GIVEN WITH THE SEED: THE CARDS: each row of YtjcoijejhachhaaGreatDoorRows.lean that lists a variable, with what it lists TIED to the program's text (the seventh form; the later family's looks); each row that meets fmt, with fmt's text TOLD by the authors' own Lean function (tested against real Go, not proved from fmt's source: count such statements apart). THE CARD IS WHAT COUNTS. Prove the row's statement (the work); the ties are given (YtjcoijejhachhaaGreatDoorTie.lean); close each card by the builder's one call (the guide's Derived/Test/ToyasCard.lean, 'card_holds'). Laid BY PROGRAM, IN A SANDBOX (cutbox-door.mjs). By AI agents, Wed Nov 11 2026. No macro, syntax, notation, axiom, sorry.
-/
import Derived.Test.YtjcoijejhachhaaGreatDoorRows
import GoSem.ClaimSeven
namespace Go.Proofs.YtjcoijejhachhaaGreatDoor
namespace Rows

/-- THE TIED CARD OF 'laws.FnPebbleClasses'. -/
def fnPebbleClassesCard : Claim7 := { stood := { row := fnPebbleClassesRow, standIns := [], harness := (true, "db07f77651157550adef791d47cbe28f88d81715b55fce93c301ba423803cca1"), looks := false }, kinds := [], alts := [], laidByText := true, laidKinds := [.data, .pinned], laidTests := true, laidLooks := .later }
def FnPebbleClassesCardSaid : Prop := Claim7.holds Tryz.pinned (.plain (OpenSpec.ofChange fnPebbleClassesSpec)) fnPebbleClassesCard

/-- THE SECOND FORM's CARD OF 'laws.FnPebbleClasses'. -/
def fnPebbleClassesUptoCard : Claim7 := { stood := { row := fnPebbleClassesUptoRow, standIns := [], harness := (true, "db07f77651157550adef791d47cbe28f88d81715b55fce93c301ba423803cca1"), looks := false }, kinds := [], alts := [], laidByText := true, laidKinds := [.data, .pinned], laidTests := true, laidLooks := .later }
def FnPebbleClassesUptoCardSaid : Prop := Claim7.holds Tryz.pinned (.plain (OpenSpec.upto fnPebbleClassesSpec)) fnPebbleClassesUptoCard
end Rows
end Go.Proofs.YtjcoijejhachhaaGreatDoor
