/-
  DERIVED. GIVEN WITH THE SEED: THE CARDS: each row of YtegimnpiojonmaaGreatDoorRows.lean that lists a variable, with what it lists TIED to the program's text (the seventh form; the later family's looks); each row that meets fmt, with fmt's text TOLD by the authors' own Lean function (tested against real Go, not proved from fmt's source: count such statements apart). THE CARD IS WHAT COUNTS. Prove the row's statement (the work); the ties are given (YtegimnpiojonmaaGreatDoorTie.lean); close each card by the builder's one call (the guide's Derived/Test/ToyasCard.lean, 'card_holds'). Laid BY PROGRAM, IN A SANDBOX (cutbox-door.mjs). By AI agents, Wed Nov 11 2026. No macro, syntax, notation, axiom, sorry.
-/
import Derived.Test.YtegimnpiojonmaaGreatDoorRows
import GoSem.ClaimSeven
namespace Go.Proofs.YtegimnpiojonmaaGreatDoor
namespace Rows

/-- THE TIED CARD OF 'sealwrightlaw43.UpdateDecode'. -/
def updateDecodeCard : Claim7 := { stood := { row := updateDecodeRow, standIns := [], harness := (true, "2e04da707092d1f992bbc204438da7b02c964521e170819b0ab27669bfa0af3a"), looks := false }, kinds := [], alts := [], laidByText := true, laidKinds := [.data, .data, .data, .data, .widerDeep, .data, .data, .data, .pinned], laidTests := true, laidLooks := .later }
def UpdateDecodeCardSaid : Prop := Claim7.holds Tryz.pinned (.plain (OpenSpec.ofChange updateDecodeSpec)) updateDecodeCard

/-- THE SECOND FORM's CARD OF 'sealwrightlaw43.UpdateDecode'. -/
def updateDecodeUptoCard : Claim7 := { stood := { row := updateDecodeUptoRow, standIns := [], harness := (true, "2e04da707092d1f992bbc204438da7b02c964521e170819b0ab27669bfa0af3a"), looks := false }, kinds := [], alts := [], laidByText := true, laidKinds := [.data, .data, .data, .data, .widerDeep, .data, .data, .data, .pinned], laidTests := true, laidLooks := .later }
def UpdateDecodeUptoCardSaid : Prop := Claim7.holds Tryz.pinned (.plain (OpenSpec.upto updateDecodeSpec)) updateDecodeUptoCard
end Rows
end Go.Proofs.YtegimnpiojonmaaGreatDoor
