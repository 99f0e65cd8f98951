/-
  DERIVED. GIVEN WITH THE SEED: THE CARDS: each row of YtmfjfpfolbnogaaGreatDoorRows.lean that lists a variable, with what it lists TIED to the program's text (the seventh form; the later family's looks); each row that meets fmt, with fmt's text TOLD by the authors' own Lean function (tested against real Go, not proved from fmt's source: count such statements apart). THE CARD IS WHAT COUNTS. Prove the row's statement (the work); the ties are given (YtmfjfpfolbnogaaGreatDoorTie.lean); close each card by the builder's one call (the guide's Derived/Test/ToyasCard.lean, 'card_holds'). Laid BY PROGRAM, IN A SANDBOX (cutbox-door.mjs). By AI agents, Wed Nov 11 2026. No macro, syntax, notation, axiom, sorry.
-/
import Derived.Test.YtmfjfpfolbnogaaGreatDoorRows
import GoSem.ClaimSeven
namespace Go.Proofs.YtmfjfpfolbnogaaGreatDoor
namespace Rows

/-- THE TIED CARD OF 'sealwrightlaw30.BootRun'. -/
def bootRunCard : Claim7 := { stood := { row := bootRunRow, standIns := [], harness := (true, "912d8c6fb1bcabf2808a248582d42adc83787d7ca7133fb688f2f582a602b5a7"), looks := false }, kinds := [], alts := [], laidByText := true, laidKinds := [.data, .data, .data, .data, .widerDeep, .data, .data, .data, .pinned], laidTests := true, laidLooks := .later }
def BootRunCardSaid : Prop := Claim7.holds Tryz.pinned (.plain (OpenSpec.ofChange bootRunSpec)) bootRunCard

/-- THE TIED CARD OF 'sealwrightlaw30.BootRead'. -/
def bootReadCard : Claim7 := { stood := { row := bootReadRow, standIns := [], harness := (true, "912d8c6fb1bcabf2808a248582d42adc83787d7ca7133fb688f2f582a602b5a7"), looks := false }, kinds := [], alts := [], laidByText := true, laidKinds := [.data, .data, .data, .data, .widerDeep, .data, .data, .data, .pinned], laidTests := true, laidLooks := .later }
def BootReadCardSaid : Prop := Claim7.holds Tryz.pinned (.plain (OpenSpec.ofChange bootReadSpec)) bootReadCard

/-- THE TIED CARD OF 'sealwrightlaw30.BootInstall'. -/
def bootInstallCard : Claim7 := { stood := { row := bootInstallRow, standIns := [], harness := (true, "912d8c6fb1bcabf2808a248582d42adc83787d7ca7133fb688f2f582a602b5a7"), looks := false }, kinds := [], alts := [], laidByText := true, laidKinds := [.data, .data, .data, .data, .widerDeep, .data, .data, .data, .pinned], laidTests := true, laidLooks := .later }
def BootInstallCardSaid : Prop := Claim7.holds Tryz.pinned (.plain (OpenSpec.ofChange bootInstallSpec)) bootInstallCard

/-- THE TIED CARD OF 'sealwrightlaw30.BootChoose'. -/
def bootChooseCard : Claim7 := { stood := { row := bootChooseRow, standIns := [], harness := (true, "912d8c6fb1bcabf2808a248582d42adc83787d7ca7133fb688f2f582a602b5a7"), looks := false }, kinds := [], alts := [], laidByText := true, laidKinds := [.data, .data, .data, .data, .widerDeep, .data, .data, .data, .pinned], laidTests := true, laidLooks := .later }
def BootChooseCardSaid : Prop := Claim7.holds Tryz.pinned (.plain (OpenSpec.ofChange bootChooseSpec)) bootChooseCard

/-- THE TIED CARD OF 'sealwrightlaw30.BootInterrupted'. -/
def bootInterruptedCard : Claim7 := { stood := { row := bootInterruptedRow, standIns := [], harness := (true, "912d8c6fb1bcabf2808a248582d42adc83787d7ca7133fb688f2f582a602b5a7"), looks := false }, kinds := [], alts := [], laidByText := true, laidKinds := [.data, .data, .data, .data, .widerDeep, .data, .data, .data, .pinned], laidTests := true, laidLooks := .later }
def BootInterruptedCardSaid : Prop := Claim7.holds Tryz.pinned (.plain (OpenSpec.ofChange bootInterruptedSpec)) bootInterruptedCard

/-- THE TIED CARD OF 'sealwrightlaw30.BootBad'. -/
def bootBadCard : Claim7 := { stood := { row := bootBadRow, standIns := [], harness := (true, "912d8c6fb1bcabf2808a248582d42adc83787d7ca7133fb688f2f582a602b5a7"), looks := false }, kinds := [], alts := [], laidByText := true, laidKinds := [.data, .data, .data, .data, .widerDeep, .data, .data, .data, .pinned], laidTests := true, laidLooks := .later }
def BootBadCardSaid : Prop := Claim7.holds Tryz.pinned (.plain (OpenSpec.ofChange bootBadSpec)) bootBadCard

/-- THE SECOND FORM's CARD OF 'sealwrightlaw30.BootRun'. -/
def bootRunUptoCard : Claim7 := { stood := { row := bootRunUptoRow, standIns := [], harness := (true, "912d8c6fb1bcabf2808a248582d42adc83787d7ca7133fb688f2f582a602b5a7"), looks := false }, kinds := [], alts := [], laidByText := true, laidKinds := [.data, .data, .data, .data, .widerDeep, .data, .data, .data, .pinned], laidTests := true, laidLooks := .later }
def BootRunUptoCardSaid : Prop := Claim7.holds Tryz.pinned (.plain (OpenSpec.upto bootRunSpec)) bootRunUptoCard

/-- THE SECOND FORM's CARD OF 'sealwrightlaw30.BootRead'. -/
def bootReadUptoCard : Claim7 := { stood := { row := bootReadUptoRow, standIns := [], harness := (true, "912d8c6fb1bcabf2808a248582d42adc83787d7ca7133fb688f2f582a602b5a7"), looks := false }, kinds := [], alts := [], laidByText := true, laidKinds := [.data, .data, .data, .data, .widerDeep, .data, .data, .data, .pinned], laidTests := true, laidLooks := .later }
def BootReadUptoCardSaid : Prop := Claim7.holds Tryz.pinned (.plain (OpenSpec.upto bootReadSpec)) bootReadUptoCard

/-- THE SECOND FORM's CARD OF 'sealwrightlaw30.BootInstall'. -/
def bootInstallUptoCard : Claim7 := { stood := { row := bootInstallUptoRow, standIns := [], harness := (true, "912d8c6fb1bcabf2808a248582d42adc83787d7ca7133fb688f2f582a602b5a7"), looks := false }, kinds := [], alts := [], laidByText := true, laidKinds := [.data, .data, .data, .data, .widerDeep, .data, .data, .data, .pinned], laidTests := true, laidLooks := .later }
def BootInstallUptoCardSaid : Prop := Claim7.holds Tryz.pinned (.plain (OpenSpec.upto bootInstallSpec)) bootInstallUptoCard

/-- THE SECOND FORM's CARD OF 'sealwrightlaw30.BootChoose'. -/
def bootChooseUptoCard : Claim7 := { stood := { row := bootChooseUptoRow, standIns := [], harness := (true, "912d8c6fb1bcabf2808a248582d42adc83787d7ca7133fb688f2f582a602b5a7"), looks := false }, kinds := [], alts := [], laidByText := true, laidKinds := [.data, .data, .data, .data, .widerDeep, .data, .data, .data, .pinned], laidTests := true, laidLooks := .later }
def BootChooseUptoCardSaid : Prop := Claim7.holds Tryz.pinned (.plain (OpenSpec.upto bootChooseSpec)) bootChooseUptoCard

/-- THE SECOND FORM's CARD OF 'sealwrightlaw30.BootInterrupted'. -/
def bootInterruptedUptoCard : Claim7 := { stood := { row := bootInterruptedUptoRow, standIns := [], harness := (true, "912d8c6fb1bcabf2808a248582d42adc83787d7ca7133fb688f2f582a602b5a7"), looks := false }, kinds := [], alts := [], laidByText := true, laidKinds := [.data, .data, .data, .data, .widerDeep, .data, .data, .data, .pinned], laidTests := true, laidLooks := .later }
def BootInterruptedUptoCardSaid : Prop := Claim7.holds Tryz.pinned (.plain (OpenSpec.upto bootInterruptedSpec)) bootInterruptedUptoCard

/-- THE SECOND FORM's CARD OF 'sealwrightlaw30.BootBad'. -/
def bootBadUptoCard : Claim7 := { stood := { row := bootBadUptoRow, standIns := [], harness := (true, "912d8c6fb1bcabf2808a248582d42adc83787d7ca7133fb688f2f582a602b5a7"), looks := false }, kinds := [], alts := [], laidByText := true, laidKinds := [.data, .data, .data, .data, .widerDeep, .data, .data, .data, .pinned], laidTests := true, laidLooks := .later }
def BootBadUptoCardSaid : Prop := Claim7.holds Tryz.pinned (.plain (OpenSpec.upto bootBadSpec)) bootBadUptoCard
end Rows
end Go.Proofs.YtmfjfpfolbnogaaGreatDoor
