/-
  DERIVED. GIVEN WITH THE SEED: THE CARDS: each row of YtkalaoahbicflaaGreatDoorRows.lean that lists a variable, with what it lists TIED to the program's text (the seventh form; the later family's looks); each row that meets fmt, with fmt's text TOLD by the authors' own Lean function (tested against real Go, not proved from fmt's source: count such statements apart). THE CARD IS WHAT COUNTS. Prove the row's statement (the work); the ties are given (YtkalaoahbicflaaGreatDoorTie.lean); close each card by the builder's one call (the guide's Derived/Test/ToyasCard.lean, 'card_holds'). Laid BY PROGRAM, IN A SANDBOX (cutbox-door.mjs). By AI agents, Wed Nov 11 2026. No macro, syntax, notation, axiom, sorry.
-/
import Derived.Test.YtkalaoahbicflaaGreatDoorRows
import GoSem.ClaimSeven
namespace Go.Proofs.YtkalaoahbicflaaGreatDoor
namespace Rows

/-- THE TIED CARD OF 'sealwrightlaw23.ModuleCounters'. -/
def moduleCountersCard : Claim7 := { stood := { row := moduleCountersRow, standIns := [], harness := (true, "7386defba5bfe0db8112c1f8a72515ce7a587d3cb4b94ed4ea59d96d99c83b62"), looks := false }, kinds := [], alts := [], laidByText := true, laidKinds := [.data, .widerDeep, .data, .data, .pinned], laidTests := true, laidLooks := .later }
def ModuleCountersCardSaid : Prop := Claim7.holds Tryz.pinned (.plain (OpenSpec.ofChange moduleCountersSpec)) moduleCountersCard

/-- THE TIED CARD OF 'sealwrightlaw23.ModuleStarted'. -/
def moduleStartedCard : Claim7 := { stood := { row := moduleStartedRow, standIns := [], harness := (true, "7386defba5bfe0db8112c1f8a72515ce7a587d3cb4b94ed4ea59d96d99c83b62"), looks := false }, kinds := [], alts := [], laidByText := true, laidKinds := [.data, .widerDeep, .data, .data, .pinned], laidTests := true, laidLooks := .later }
def ModuleStartedCardSaid : Prop := Claim7.holds Tryz.pinned (.plain (OpenSpec.ofChange moduleStartedSpec)) moduleStartedCard

/-- THE SECOND FORM's CARD OF 'sealwrightlaw23.ModuleCounters'. -/
def moduleCountersUptoCard : Claim7 := { stood := { row := moduleCountersUptoRow, standIns := [], harness := (true, "7386defba5bfe0db8112c1f8a72515ce7a587d3cb4b94ed4ea59d96d99c83b62"), looks := false }, kinds := [], alts := [], laidByText := true, laidKinds := [.data, .widerDeep, .data, .data, .pinned], laidTests := true, laidLooks := .later }
def ModuleCountersUptoCardSaid : Prop := Claim7.holds Tryz.pinned (.plain (OpenSpec.upto moduleCountersSpec)) moduleCountersUptoCard

/-- THE SECOND FORM's CARD OF 'sealwrightlaw23.ModuleStarted'. -/
def moduleStartedUptoCard : Claim7 := { stood := { row := moduleStartedUptoRow, standIns := [], harness := (true, "7386defba5bfe0db8112c1f8a72515ce7a587d3cb4b94ed4ea59d96d99c83b62"), looks := false }, kinds := [], alts := [], laidByText := true, laidKinds := [.data, .widerDeep, .data, .data, .pinned], laidTests := true, laidLooks := .later }
def ModuleStartedUptoCardSaid : Prop := Claim7.holds Tryz.pinned (.plain (OpenSpec.upto moduleStartedSpec)) moduleStartedUptoCard
end Rows
end Go.Proofs.YtkalaoahbicflaaGreatDoor
