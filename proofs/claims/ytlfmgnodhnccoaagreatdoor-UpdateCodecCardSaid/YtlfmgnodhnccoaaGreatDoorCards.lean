/-
  DERIVED. GIVEN WITH THE SEED: THE CARDS: each row of YtlfmgnodhnccoaaGreatDoorRows.lean that lists a variable, with what it lists TIED to the program's text (the seventh form; the later family's looks); each row that meets fmt, with fmt's text TOLD by the authors' own Lean function (tested against real Go, not proved from fmt's source: count such statements apart). THE CARD IS WHAT COUNTS. Prove the row's statement (the work); the ties are given (YtlfmgnodhnccoaaGreatDoorTie.lean); close each card by the builder's one call (the guide's Derived/Test/ToyasCard.lean, 'card_holds'). Laid BY PROGRAM, IN A SANDBOX (cutbox-door.mjs). By AI agents, Wed Nov 11 2026. No macro, syntax, notation, axiom, sorry.
-/
import Derived.Test.YtlfmgnodhnccoaaGreatDoorRows
import GoSem.ClaimSeven
namespace Go.Proofs.YtlfmgnodhnccoaaGreatDoor
namespace Rows

/-- THE TIED CARD OF 'sealwrightlaw43.UpdateCodec'. -/
def updateCodecCard : Claim7 := { stood := { row := updateCodecRow, standIns := [], harness := (true, "8531429eddcd2d01be84cffd2df34cabcbe423c19c8fc1829531e60535c6062e"), looks := false }, kinds := [], alts := [], laidByText := true, laidKinds := [.data, .data, .data, .data, .widerDeep, .data, .data, .data, .pinned], laidTests := true, laidLooks := .later }
def UpdateCodecCardSaid : Prop := Claim7.holds Tryz.pinned (.plain (OpenSpec.ofChange updateCodecSpec)) updateCodecCard

/-- THE SECOND FORM's CARD OF 'sealwrightlaw43.UpdateCodec'. -/
def updateCodecUptoCard : Claim7 := { stood := { row := updateCodecUptoRow, standIns := [], harness := (true, "8531429eddcd2d01be84cffd2df34cabcbe423c19c8fc1829531e60535c6062e"), looks := false }, kinds := [], alts := [], laidByText := true, laidKinds := [.data, .data, .data, .data, .widerDeep, .data, .data, .data, .pinned], laidTests := true, laidLooks := .later }
def UpdateCodecUptoCardSaid : Prop := Claim7.holds Tryz.pinned (.plain (OpenSpec.upto updateCodecSpec)) updateCodecUptoCard
end Rows
end Go.Proofs.YtlfmgnodhnccoaaGreatDoor
