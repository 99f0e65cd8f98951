/-
  DERIVED. GIVEN WITH THE SEED: THE CARDS: each row of YtlipjldhnmcbiaaGreatDoorRows.lean that lists a variable, with what it lists TIED to the program's text (the seventh form; the later family's looks); each row that meets fmt, with fmt's text TOLD by the authors' own Lean function (tested against real Go, not proved from fmt's source: count such statements apart). THE CARD IS WHAT COUNTS. Prove the row's statement (the work); the ties are given (YtlipjldhnmcbiaaGreatDoorTie.lean); close each card by the builder's one call (the guide's Derived/Test/ToyasCard.lean, 'card_holds'). Laid BY PROGRAM, IN A SANDBOX (cutbox-door.mjs). By AI agents, Wed Nov 11 2026. No macro, syntax, notation, axiom, sorry.
-/
import Derived.Test.YtlipjldhnmcbiaaGreatDoorRows
import GoSem.ClaimSeven
namespace Go.Proofs.YtlipjldhnmcbiaaGreatDoor
namespace Rows

/-- THE TIED CARD OF 'sealwrightlaw43.UpdatePolicy'. -/
def updatePolicyCard : Claim7 := { stood := { row := updatePolicyRow, standIns := [], harness := (true, "28b12d039eb9dd25f5be7c1cf0cd647303f866ec016fc2cb7b1ff48ef3f892c6"), looks := false }, kinds := [], alts := [], laidByText := true, laidKinds := [.data, .data, .data, .data, .widerDeep, .data, .data, .data, .pinned], laidTests := true, laidLooks := .later }
def UpdatePolicyCardSaid : Prop := Claim7.holds Tryz.pinned (.plain (OpenSpec.ofChange updatePolicySpec)) updatePolicyCard

/-- THE SECOND FORM's CARD OF 'sealwrightlaw43.UpdatePolicy'. -/
def updatePolicyUptoCard : Claim7 := { stood := { row := updatePolicyUptoRow, standIns := [], harness := (true, "28b12d039eb9dd25f5be7c1cf0cd647303f866ec016fc2cb7b1ff48ef3f892c6"), looks := false }, kinds := [], alts := [], laidByText := true, laidKinds := [.data, .data, .data, .data, .widerDeep, .data, .data, .data, .pinned], laidTests := true, laidLooks := .later }
def UpdatePolicyUptoCardSaid : Prop := Claim7.holds Tryz.pinned (.plain (OpenSpec.upto updatePolicySpec)) updatePolicyUptoCard
end Rows
end Go.Proofs.YtlipjldhnmcbiaaGreatDoor
