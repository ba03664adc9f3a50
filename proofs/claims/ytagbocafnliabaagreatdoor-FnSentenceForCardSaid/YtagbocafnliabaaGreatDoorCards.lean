/-
  DERIVED. GIVEN WITH THE SEED: THE CARDS: each row of YtagbocafnliabaaGreatDoorRows.lean that lists a variable, with what it lists TIED to the program's text (the seventh form; the later family's looks); each row that meets fmt, with fmt's text TOLD by the authors' own Lean function (tested against real Go, not proved from fmt's source: count such statements apart). THE CARD IS WHAT COUNTS. Prove the row's statement (the work); the ties are given (YtagbocafnliabaaGreatDoorTie.lean); close each card by the builder's one call (the guide's Derived/Test/ToyasCard.lean, 'card_holds'). Laid BY PROGRAM, IN A SANDBOX (cutbox-door.mjs). By AI agents, Wed Nov 11 2026. No macro, syntax, notation, axiom, sorry.
-/
import Derived.Test.YtagbocafnliabaaGreatDoorRows
import GoSem.ClaimSeven
namespace Go.Proofs.YtagbocafnliabaaGreatDoor
namespace Rows

/-- THE TIED CARD OF 'laws.FnSentenceFor'. -/
def fnSentenceForCard : Claim7 := { stood := { row := fnSentenceForRow, standIns := [], harness := (true, "3f586294b10b00addba5efb448f98fe22fa4035aadd69d5533fc8f61dcc7a72b"), looks := false }, kinds := [], alts := [], laidByText := true, laidKinds := [.data, .pinned], laidTests := true, laidLooks := .later }
def FnSentenceForCardSaid : Prop := Claim7.holds Tryz.pinned (.plain (OpenSpec.ofChange fnSentenceForSpec)) fnSentenceForCard

/-- THE SECOND FORM's CARD OF 'laws.FnSentenceFor'. -/
def fnSentenceForUptoCard : Claim7 := { stood := { row := fnSentenceForUptoRow, standIns := [], harness := (true, "3f586294b10b00addba5efb448f98fe22fa4035aadd69d5533fc8f61dcc7a72b"), looks := false }, kinds := [], alts := [], laidByText := true, laidKinds := [.data, .pinned], laidTests := true, laidLooks := .later }
def FnSentenceForUptoCardSaid : Prop := Claim7.holds Tryz.pinned (.plain (OpenSpec.upto fnSentenceForSpec)) fnSentenceForUptoCard
end Rows
end Go.Proofs.YtagbocafnliabaaGreatDoor
