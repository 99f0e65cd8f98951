/-
  DERIVED. GIVEN WITH THE SEED: THE CARDS: each row of YteadpnddgpfbdaaGreatDoorRows.lean that lists a variable, with what it lists TIED to the program's text (the seventh form; the later family's looks); each row that meets fmt, with fmt's text TOLD by the authors' own Lean function (tested against real Go, not proved from fmt's source: count such statements apart). THE CARD IS WHAT COUNTS. Prove the row's statement (the work); the ties are given (YteadpnddgpfbdaaGreatDoorTie.lean); close each card by the builder's one call (the guide's Derived/Test/ToyasCard.lean, 'card_holds'). Laid BY PROGRAM, IN A SANDBOX (cutbox-door.mjs). By AI agents, Wed Nov 11 2026. No macro, syntax, notation, axiom, sorry.
-/
import Derived.Test.YteadpnddgpfbdaaGreatDoorRows
import GoSem.ClaimSeven
namespace Go.Proofs.YteadpnddgpfbdaaGreatDoor
namespace Rows

/-- THE TIED CARD OF 'sealwrightlaw37.AppraiseQuote'. -/
def appraiseQuoteCard : Claim7 := { stood := { row := appraiseQuoteRow, standIns := [], harness := (true, "4fc14afb519a168f232c3821bea04780fb780109a3e42035d96774ca8a2cd288"), looks := true }, kinds := [], alts := [], laidByText := true, laidKinds := [.data, .data, .data, .data, .data, .sentinel, .sentinel, .data, .pinned], laidTests := true, laidLooks := .later }
def AppraiseQuoteCardSaid : Prop := Claim7.holds Tryz.pinned (.plain (OpenSpec.ofChange appraiseQuoteSpec)) appraiseQuoteCard

/-- THE TIED CARD OF 'sealwrightlaw37.AppraiseVerdict'. -/
def appraiseVerdictCard : Claim7 := { stood := { row := appraiseVerdictRow, standIns := [], harness := (true, "4fc14afb519a168f232c3821bea04780fb780109a3e42035d96774ca8a2cd288"), looks := true }, kinds := [], alts := [], laidByText := true, laidKinds := [.data, .data, .data, .data, .data, .sentinel, .sentinel, .data, .pinned], laidTests := true, laidLooks := .later }
def AppraiseVerdictCardSaid : Prop := Claim7.holds Tryz.pinned (.plain (OpenSpec.ofChange appraiseVerdictSpec)) appraiseVerdictCard

/-- THE TIED CARD OF 'sealwrightlaw37.AppraiseTamper'. -/
def appraiseTamperCard : Claim7 := { stood := { row := appraiseTamperRow, standIns := [], harness := (true, "4fc14afb519a168f232c3821bea04780fb780109a3e42035d96774ca8a2cd288"), looks := true }, kinds := [], alts := [], laidByText := true, laidKinds := [.data, .data, .data, .data, .data, .sentinel, .sentinel, .data, .pinned], laidTests := true, laidLooks := .later }
def AppraiseTamperCardSaid : Prop := Claim7.holds Tryz.pinned (.plain (OpenSpec.ofChange appraiseTamperSpec)) appraiseTamperCard

/-- THE TIED CARD OF 'sealwrightlaw37.AppraiseStart'. -/
def appraiseStartCard : Claim7 := { stood := { row := appraiseStartRow, standIns := [], harness := (true, "4fc14afb519a168f232c3821bea04780fb780109a3e42035d96774ca8a2cd288"), looks := true }, kinds := [], alts := [], laidByText := true, laidKinds := [.data, .data, .data, .data, .data, .sentinel, .sentinel, .data, .pinned], laidTests := true, laidLooks := .later }
def AppraiseStartCardSaid : Prop := Claim7.holds Tryz.pinned (.plain (OpenSpec.ofChange appraiseStartSpec)) appraiseStartCard

/-- THE TIED CARD OF 'sealwrightlaw37.AppraiseAccepted'. -/
def appraiseAcceptedCard : Claim7 := { stood := { row := appraiseAcceptedRow, standIns := [], harness := (true, "4fc14afb519a168f232c3821bea04780fb780109a3e42035d96774ca8a2cd288"), looks := true }, kinds := [], alts := [], laidByText := true, laidKinds := [.data, .data, .data, .data, .data, .sentinel, .sentinel, .data, .pinned], laidTests := true, laidLooks := .later }
def AppraiseAcceptedCardSaid : Prop := Claim7.holds Tryz.pinned (.plain (OpenSpec.ofChange appraiseAcceptedSpec)) appraiseAcceptedCard

/-- THE SECOND FORM's CARD OF 'sealwrightlaw37.AppraiseQuote'. -/
def appraiseQuoteUptoCard : Claim7 := { stood := { row := appraiseQuoteUptoRow, standIns := [], harness := (true, "4fc14afb519a168f232c3821bea04780fb780109a3e42035d96774ca8a2cd288"), looks := true }, kinds := [], alts := [], laidByText := true, laidKinds := [.data, .data, .data, .data, .data, .sentinel, .sentinel, .data, .pinned], laidTests := true, laidLooks := .later }
def AppraiseQuoteUptoCardSaid : Prop := Claim7.holds Tryz.pinned (.plain (OpenSpec.upto appraiseQuoteSpec)) appraiseQuoteUptoCard

/-- THE SECOND FORM's CARD OF 'sealwrightlaw37.AppraiseVerdict'. -/
def appraiseVerdictUptoCard : Claim7 := { stood := { row := appraiseVerdictUptoRow, standIns := [], harness := (true, "4fc14afb519a168f232c3821bea04780fb780109a3e42035d96774ca8a2cd288"), looks := true }, kinds := [], alts := [], laidByText := true, laidKinds := [.data, .data, .data, .data, .data, .sentinel, .sentinel, .data, .pinned], laidTests := true, laidLooks := .later }
def AppraiseVerdictUptoCardSaid : Prop := Claim7.holds Tryz.pinned (.plain (OpenSpec.upto appraiseVerdictSpec)) appraiseVerdictUptoCard

/-- THE SECOND FORM's CARD OF 'sealwrightlaw37.AppraiseTamper'. -/
def appraiseTamperUptoCard : Claim7 := { stood := { row := appraiseTamperUptoRow, standIns := [], harness := (true, "4fc14afb519a168f232c3821bea04780fb780109a3e42035d96774ca8a2cd288"), looks := true }, kinds := [], alts := [], laidByText := true, laidKinds := [.data, .data, .data, .data, .data, .sentinel, .sentinel, .data, .pinned], laidTests := true, laidLooks := .later }
def AppraiseTamperUptoCardSaid : Prop := Claim7.holds Tryz.pinned (.plain (OpenSpec.upto appraiseTamperSpec)) appraiseTamperUptoCard

/-- THE SECOND FORM's CARD OF 'sealwrightlaw37.AppraiseStart'. -/
def appraiseStartUptoCard : Claim7 := { stood := { row := appraiseStartUptoRow, standIns := [], harness := (true, "4fc14afb519a168f232c3821bea04780fb780109a3e42035d96774ca8a2cd288"), looks := true }, kinds := [], alts := [], laidByText := true, laidKinds := [.data, .data, .data, .data, .data, .sentinel, .sentinel, .data, .pinned], laidTests := true, laidLooks := .later }
def AppraiseStartUptoCardSaid : Prop := Claim7.holds Tryz.pinned (.plain (OpenSpec.upto appraiseStartSpec)) appraiseStartUptoCard

/-- THE SECOND FORM's CARD OF 'sealwrightlaw37.AppraiseAccepted'. -/
def appraiseAcceptedUptoCard : Claim7 := { stood := { row := appraiseAcceptedUptoRow, standIns := [], harness := (true, "4fc14afb519a168f232c3821bea04780fb780109a3e42035d96774ca8a2cd288"), looks := true }, kinds := [], alts := [], laidByText := true, laidKinds := [.data, .data, .data, .data, .data, .sentinel, .sentinel, .data, .pinned], laidTests := true, laidLooks := .later }
def AppraiseAcceptedUptoCardSaid : Prop := Claim7.holds Tryz.pinned (.plain (OpenSpec.upto appraiseAcceptedSpec)) appraiseAcceptedUptoCard
end Rows
end Go.Proofs.YteadpnddgpfbdaaGreatDoor
