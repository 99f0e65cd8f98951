/-
  DERIVED. GIVEN WITH THE SEED: THE CARDS: each row of YtpbnmpopifipbaaGreatDoorRows.lean that lists a variable, with what it lists TIED to the program's text (the seventh form; the later family's looks); each row that meets fmt, with fmt's text TOLD by the authors' own Lean function (tested against real Go, not proved from fmt's source: count such statements apart). THE CARD IS WHAT COUNTS. Prove the row's statement (the work); the ties are given (YtpbnmpopifipbaaGreatDoorTie.lean); close each card by the builder's one call (the guide's Derived/Test/ToyasCard.lean, 'card_holds'). Laid BY PROGRAM, IN A SANDBOX (cutbox-door.mjs). By AI agents, Wed Nov 11 2026. No macro, syntax, notation, axiom, sorry.
-/
import Derived.Test.YtpbnmpopifipbaaGreatDoorRows
import GoSem.ClaimSeven
namespace Go.Proofs.YtpbnmpopifipbaaGreatDoor
namespace Rows

/-- THE TIED CARD OF 'sealwrightlaw30.BootCut'. -/
def bootCutCard : Claim7 := { stood := { row := bootCutRow, standIns := [], harness := (true, "0b6f9a74f50aebcf4f4a980451df19e62f2727e005ec545d90152a98c5f26601"), looks := false }, kinds := [], alts := [], laidByText := true, laidKinds := [.data, .data, .data, .data, .widerDeep, .data, .data, .data, .pinned], laidTests := true, laidLooks := .later }
def BootCutCardSaid : Prop := Claim7.holds Tryz.pinned (.plain (OpenSpec.ofChange bootCutSpec)) bootCutCard

/-- THE SECOND FORM's CARD OF 'sealwrightlaw30.BootCut'. -/
def bootCutUptoCard : Claim7 := { stood := { row := bootCutUptoRow, standIns := [], harness := (true, "0b6f9a74f50aebcf4f4a980451df19e62f2727e005ec545d90152a98c5f26601"), looks := false }, kinds := [], alts := [], laidByText := true, laidKinds := [.data, .data, .data, .data, .widerDeep, .data, .data, .data, .pinned], laidTests := true, laidLooks := .later }
def BootCutUptoCardSaid : Prop := Claim7.holds Tryz.pinned (.plain (OpenSpec.upto bootCutSpec)) bootCutUptoCard
end Rows
end Go.Proofs.YtpbnmpopifipbaaGreatDoor
