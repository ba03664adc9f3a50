/-
  DERIVED. GIVEN WITH THE SEED: THE CARDS: each row of YtefiibghfgfdnaaGreatDoorRows.lean that lists a variable, with what it lists TIED to the program's text (the seventh form; the later family's looks); each row that meets fmt, with fmt's text TOLD by the authors' own Lean function (tested against real Go, not proved from fmt's source: count such statements apart). THE CARD IS WHAT COUNTS. Prove the row's statement (the work); the ties are given (YtefiibghfgfdnaaGreatDoorTie.lean); close each card by the builder's one call (the guide's Derived/Test/ToyasCard.lean, 'card_holds'). Laid BY PROGRAM, IN A SANDBOX (cutbox-door.mjs). By AI agents, Wed Nov 11 2026. No macro, syntax, notation, axiom, sorry.
-/
import Derived.Test.YtefiibghfgfdnaaGreatDoorRows
import GoSem.ClaimSeven
namespace Go.Proofs.YtefiibghfgfdnaaGreatDoor
namespace Rows

/-- THE TIED CARD OF 'laws.FnTellApart'. -/
def fnTellApartCard : Claim7 := { stood := { row := fnTellApartRow, standIns := [], harness := (true, "3e2462af724cce75e29112b5184e951a9c047d590d6ac3a5592ea10ef9ceedee"), looks := false }, kinds := [], alts := [], laidByText := true, laidKinds := [.data, .pinned], laidTests := true, laidLooks := .later }
def FnTellApartCardSaid : Prop := Claim7.holds Tryz.pinned (.plain (OpenSpec.ofChange fnTellApartSpec)) fnTellApartCard

/-- THE TIED CARD OF 'laws.FnSentenceFor'. -/
def fnSentenceForCard : Claim7 := { stood := { row := fnSentenceForRow, standIns := [], harness := (true, "3e2462af724cce75e29112b5184e951a9c047d590d6ac3a5592ea10ef9ceedee"), looks := false }, kinds := [], alts := [], laidByText := true, laidKinds := [.data, .pinned], laidTests := true, laidLooks := .later }
def FnSentenceForCardSaid : Prop := Claim7.holds Tryz.pinned (.plain (OpenSpec.ofChange fnSentenceForSpec)) fnSentenceForCard

/-- THE TIED CARD OF 'laws.FnSeparates'. -/
def fnSeparatesCard : Claim7 := { stood := { row := fnSeparatesRow, standIns := [], harness := (true, "3e2462af724cce75e29112b5184e951a9c047d590d6ac3a5592ea10ef9ceedee"), looks := false }, kinds := [], alts := [], laidByText := true, laidKinds := [.data, .pinned], laidTests := true, laidLooks := .later }
def FnSeparatesCardSaid : Prop := Claim7.holds Tryz.pinned (.plain (OpenSpec.ofChange fnSeparatesSpec)) fnSeparatesCard

/-- THE TIED CARD OF 'laws.FnFewVariables'. -/
def fnFewVariablesCard : Claim7 := { stood := { row := fnFewVariablesRow, standIns := [], harness := (true, "3e2462af724cce75e29112b5184e951a9c047d590d6ac3a5592ea10ef9ceedee"), looks := false }, kinds := [], alts := [], laidByText := true, laidKinds := [.data, .pinned], laidTests := true, laidLooks := .later }
def FnFewVariablesCardSaid : Prop := Claim7.holds Tryz.pinned (.plain (OpenSpec.ofChange fnFewVariablesSpec)) fnFewVariablesCard

/-- THE TIED CARD OF 'laws.FnAgree'. -/
def fnAgreeCard : Claim7 := { stood := { row := fnAgreeRow, standIns := [], harness := (true, "3e2462af724cce75e29112b5184e951a9c047d590d6ac3a5592ea10ef9ceedee"), looks := false }, kinds := [], alts := [], laidByText := true, laidKinds := [.data, .pinned], laidTests := true, laidLooks := .later }
def FnAgreeCardSaid : Prop := Claim7.holds Tryz.pinned (.plain (OpenSpec.ofChange fnAgreeSpec)) fnAgreeCard

/-- THE SECOND FORM's CARD OF 'laws.FnTellApart'. -/
def fnTellApartUptoCard : Claim7 := { stood := { row := fnTellApartUptoRow, standIns := [], harness := (true, "3e2462af724cce75e29112b5184e951a9c047d590d6ac3a5592ea10ef9ceedee"), looks := false }, kinds := [], alts := [], laidByText := true, laidKinds := [.data, .pinned], laidTests := true, laidLooks := .later }
def FnTellApartUptoCardSaid : Prop := Claim7.holds Tryz.pinned (.plain (OpenSpec.upto fnTellApartSpec)) fnTellApartUptoCard

/-- THE SECOND FORM's CARD OF 'laws.FnSentenceFor'. -/
def fnSentenceForUptoCard : Claim7 := { stood := { row := fnSentenceForUptoRow, standIns := [], harness := (true, "3e2462af724cce75e29112b5184e951a9c047d590d6ac3a5592ea10ef9ceedee"), looks := false }, kinds := [], alts := [], laidByText := true, laidKinds := [.data, .pinned], laidTests := true, laidLooks := .later }
def FnSentenceForUptoCardSaid : Prop := Claim7.holds Tryz.pinned (.plain (OpenSpec.upto fnSentenceForSpec)) fnSentenceForUptoCard

/-- THE SECOND FORM's CARD OF 'laws.FnSeparates'. -/
def fnSeparatesUptoCard : Claim7 := { stood := { row := fnSeparatesUptoRow, standIns := [], harness := (true, "3e2462af724cce75e29112b5184e951a9c047d590d6ac3a5592ea10ef9ceedee"), looks := false }, kinds := [], alts := [], laidByText := true, laidKinds := [.data, .pinned], laidTests := true, laidLooks := .later }
def FnSeparatesUptoCardSaid : Prop := Claim7.holds Tryz.pinned (.plain (OpenSpec.upto fnSeparatesSpec)) fnSeparatesUptoCard

/-- THE SECOND FORM's CARD OF 'laws.FnFewVariables'. -/
def fnFewVariablesUptoCard : Claim7 := { stood := { row := fnFewVariablesUptoRow, standIns := [], harness := (true, "3e2462af724cce75e29112b5184e951a9c047d590d6ac3a5592ea10ef9ceedee"), looks := false }, kinds := [], alts := [], laidByText := true, laidKinds := [.data, .pinned], laidTests := true, laidLooks := .later }
def FnFewVariablesUptoCardSaid : Prop := Claim7.holds Tryz.pinned (.plain (OpenSpec.upto fnFewVariablesSpec)) fnFewVariablesUptoCard

/-- THE SECOND FORM's CARD OF 'laws.FnAgree'. -/
def fnAgreeUptoCard : Claim7 := { stood := { row := fnAgreeUptoRow, standIns := [], harness := (true, "3e2462af724cce75e29112b5184e951a9c047d590d6ac3a5592ea10ef9ceedee"), looks := false }, kinds := [], alts := [], laidByText := true, laidKinds := [.data, .pinned], laidTests := true, laidLooks := .later }
def FnAgreeUptoCardSaid : Prop := Claim7.holds Tryz.pinned (.plain (OpenSpec.upto fnAgreeSpec)) fnAgreeUptoCard
end Rows
end Go.Proofs.YtefiibghfgfdnaaGreatDoor
