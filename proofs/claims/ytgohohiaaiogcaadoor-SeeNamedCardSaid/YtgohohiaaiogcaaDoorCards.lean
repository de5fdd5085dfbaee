/-
  DERIVED. GIVEN WITH THE SEED: THE CARDS: each row of YtgohohiaaiogcaaDoorRows.lean that lists a variable, with what it lists TIED to the program's text (the seventh form; the later family's looks); each row that meets fmt, with fmt's text TOLD by the authors' own Lean function (tested against real Go, not proved from fmt's source: count such statements apart). THE CARD IS WHAT COUNTS. Prove the row's statement (the work); the ties are given (YtgohohiaaiogcaaDoorTie.lean); close each card by the builder's one call (the guide's Derived/Test/ToyasCard.lean, 'card_holds'). Laid BY PROGRAM, IN A SANDBOX (cutbox-door.mjs). By AI agents, Wed Nov 11 2026. No macro, syntax, notation, axiom, sorry.
-/
import Derived.Test.YtgohohiaaiogcaaDoorRows
import GoSem.ClaimSeven
namespace Go.Proofs.YtgohohiaaiogcaaDoor
namespace Rows

/-- THE TIED CARD OF 'headwordlaw02.SeeChoices'. -/
def seeChoicesCard : Claim7 := { stood := { row := seeChoicesRow, standIns := [], harness := (true, "afebde5e95197bfceb092dea0fc993115919c36ff399ddfbcbf915315d0ef22b"), looks := true }, kinds := [], alts := [], laidByText := true, laidKinds := [.data, .data], laidTests := true, laidLooks := .later }
def SeeChoicesCardSaid : Prop := Claim7.holds Tryd.pinned (.plain (OpenSpec.ofChange seeChoicesSpec)) seeChoicesCard

/-- THE TIED CARD OF 'headwordlaw02.SeeRings'. -/
def seeRingsCard : Claim7 := { stood := { row := seeRingsRow, standIns := [], harness := (true, "afebde5e95197bfceb092dea0fc993115919c36ff399ddfbcbf915315d0ef22b"), looks := true }, kinds := [], alts := [], laidByText := true, laidKinds := [.data, .data], laidTests := true, laidLooks := .later }
def SeeRingsCardSaid : Prop := Claim7.holds Tryd.pinned (.plain (OpenSpec.ofChange seeRingsSpec)) seeRingsCard

/-- THE TIED CARD OF 'headwordlaw02.SeeWays'. -/
def seeWaysCard : Claim7 := { stood := { row := seeWaysRow, standIns := [], harness := (true, "afebde5e95197bfceb092dea0fc993115919c36ff399ddfbcbf915315d0ef22b"), looks := true }, kinds := [], alts := [], laidByText := true, laidKinds := [.data, .data], laidTests := true, laidLooks := .later }
def SeeWaysCardSaid : Prop := Claim7.holds Tryd.pinned (.plain (OpenSpec.ofChange seeWaysSpec)) seeWaysCard

/-- THE TIED CARD OF 'headwordlaw02.SeeCircles'. -/
def seeCirclesCard : Claim7 := { stood := { row := seeCirclesRow, standIns := [], harness := (true, "afebde5e95197bfceb092dea0fc993115919c36ff399ddfbcbf915315d0ef22b"), looks := true }, kinds := [], alts := [], laidByText := true, laidKinds := [.data, .data], laidTests := true, laidLooks := .later }
def SeeCirclesCardSaid : Prop := Claim7.holds Tryd.pinned (.plain (OpenSpec.ofChange seeCirclesSpec)) seeCirclesCard

/-- THE TIED CARD OF 'headwordlaw02.SeeRichardson'. -/
def seeRichardsonCard : Claim7 := { stood := { row := seeRichardsonRow, standIns := [], harness := (true, "afebde5e95197bfceb092dea0fc993115919c36ff399ddfbcbf915315d0ef22b"), looks := true }, kinds := [], alts := [], laidByText := true, laidKinds := [.data, .data], laidTests := true, laidLooks := .later }
def SeeRichardsonCardSaid : Prop := Claim7.holds Tryd.pinned (.plain (OpenSpec.ofChange seeRichardsonSpec)) seeRichardsonCard

/-- THE TIED CARD OF 'headwordlaw02.SeeOrdered'. -/
def seeOrderedCard : Claim7 := { stood := { row := seeOrderedRow, standIns := [], harness := (true, "afebde5e95197bfceb092dea0fc993115919c36ff399ddfbcbf915315d0ef22b"), looks := true }, kinds := [], alts := [], laidByText := true, laidKinds := [.data, .data], laidTests := true, laidLooks := .later }
def SeeOrderedCardSaid : Prop := Claim7.holds Tryd.pinned (.plain (OpenSpec.ofChange seeOrderedSpec)) seeOrderedCard

/-- THE TIED CARD OF 'headwordlaw02.SeeTurned'. -/
def seeTurnedCard : Claim7 := { stood := { row := seeTurnedRow, standIns := [], harness := (true, "afebde5e95197bfceb092dea0fc993115919c36ff399ddfbcbf915315d0ef22b"), looks := true }, kinds := [], alts := [], laidByText := true, laidKinds := [.data, .data], laidTests := true, laidLooks := .later }
def SeeTurnedCardSaid : Prop := Claim7.holds Tryd.pinned (.plain (OpenSpec.ofChange seeTurnedSpec)) seeTurnedCard

/-- THE TIED CARD OF 'headwordlaw02.SeeMutual'. -/
def seeMutualCard : Claim7 := { stood := { row := seeMutualRow, standIns := [], harness := (true, "afebde5e95197bfceb092dea0fc993115919c36ff399ddfbcbf915315d0ef22b"), looks := true }, kinds := [], alts := [], laidByText := true, laidKinds := [.data, .data], laidTests := true, laidLooks := .later }
def SeeMutualCardSaid : Prop := Claim7.holds Tryd.pinned (.plain (OpenSpec.ofChange seeMutualSpec)) seeMutualCard

/-- THE TIED CARD OF 'headwordlaw02.SeeCounted'. -/
def seeCountedCard : Claim7 := { stood := { row := seeCountedRow, standIns := [], harness := (true, "afebde5e95197bfceb092dea0fc993115919c36ff399ddfbcbf915315d0ef22b"), looks := true }, kinds := [], alts := [], laidByText := true, laidKinds := [.data, .data], laidTests := true, laidLooks := .later }
def SeeCountedCardSaid : Prop := Claim7.holds Tryd.pinned (.plain (OpenSpec.ofChange seeCountedSpec)) seeCountedCard

/-- THE TIED CARD OF 'headwordlaw02.SeeNear'. -/
def seeNearCard : Claim7 := { stood := { row := seeNearRow, standIns := [], harness := (true, "afebde5e95197bfceb092dea0fc993115919c36ff399ddfbcbf915315d0ef22b"), looks := true }, kinds := [], alts := [], laidByText := true, laidKinds := [.data, .data], laidTests := true, laidLooks := .later }
def SeeNearCardSaid : Prop := Claim7.holds Tryd.pinned (.plain (OpenSpec.ofChange seeNearSpec)) seeNearCard

/-- THE TIED CARD OF 'headwordlaw02.SeeGrown'. -/
def seeGrownCard : Claim7 := { stood := { row := seeGrownRow, standIns := [], harness := (true, "afebde5e95197bfceb092dea0fc993115919c36ff399ddfbcbf915315d0ef22b"), looks := true }, kinds := [], alts := [], laidByText := true, laidKinds := [.data, .data], laidTests := true, laidLooks := .later }
def SeeGrownCardSaid : Prop := Claim7.holds Tryd.pinned (.plain (OpenSpec.ofChange seeGrownSpec)) seeGrownCard

/-- THE TIED CARD OF 'headwordlaw02.SeeShown'. -/
def seeShownCard : Claim7 := { stood := { row := seeShownRow, standIns := [], harness := (true, "afebde5e95197bfceb092dea0fc993115919c36ff399ddfbcbf915315d0ef22b"), looks := true }, kinds := [], alts := [], laidByText := true, laidKinds := [.data, .data], laidTests := true, laidLooks := .later }
def SeeShownCardSaid : Prop := Claim7.holds Tryd.pinned (.plain (OpenSpec.ofChange seeShownSpec)) seeShownCard

/-- THE TIED CARD OF 'headwordlaw02.SeeKnown'. -/
def seeKnownCard : Claim7 := { stood := { row := seeKnownRow, standIns := [], harness := (true, "afebde5e95197bfceb092dea0fc993115919c36ff399ddfbcbf915315d0ef22b"), looks := true }, kinds := [], alts := [], laidByText := true, laidKinds := [.data, .data], laidTests := true, laidLooks := .later }
def SeeKnownCardSaid : Prop := Claim7.holds Tryd.pinned (.plain (OpenSpec.ofChange seeKnownSpec)) seeKnownCard

/-- THE TIED CARD OF 'headwordlaw02.SeeNamed'. -/
def seeNamedCard : Claim7 := { stood := { row := seeNamedRow, standIns := [], harness := (true, "afebde5e95197bfceb092dea0fc993115919c36ff399ddfbcbf915315d0ef22b"), looks := true }, kinds := [], alts := [], laidByText := true, laidKinds := [.data, .data], laidTests := true, laidLooks := .later }
def SeeNamedCardSaid : Prop := Claim7.holds Tryd.pinned (.plain (OpenSpec.ofChange seeNamedSpec)) seeNamedCard

/-- THE SECOND FORM's CARD OF 'headwordlaw02.SeeChoices'. -/
def seeChoicesUptoCard : Claim7 := { stood := { row := seeChoicesUptoRow, standIns := [], harness := (true, "afebde5e95197bfceb092dea0fc993115919c36ff399ddfbcbf915315d0ef22b"), looks := true }, kinds := [], alts := [], laidByText := true, laidKinds := [.data, .data], laidTests := true, laidLooks := .later }
def SeeChoicesUptoCardSaid : Prop := Claim7.holds Tryd.pinned (.plain (OpenSpec.upto seeChoicesSpec)) seeChoicesUptoCard

/-- THE SECOND FORM's CARD OF 'headwordlaw02.SeeRings'. -/
def seeRingsUptoCard : Claim7 := { stood := { row := seeRingsUptoRow, standIns := [], harness := (true, "afebde5e95197bfceb092dea0fc993115919c36ff399ddfbcbf915315d0ef22b"), looks := true }, kinds := [], alts := [], laidByText := true, laidKinds := [.data, .data], laidTests := true, laidLooks := .later }
def SeeRingsUptoCardSaid : Prop := Claim7.holds Tryd.pinned (.plain (OpenSpec.upto seeRingsSpec)) seeRingsUptoCard

/-- THE SECOND FORM's CARD OF 'headwordlaw02.SeeWays'. -/
def seeWaysUptoCard : Claim7 := { stood := { row := seeWaysUptoRow, standIns := [], harness := (true, "afebde5e95197bfceb092dea0fc993115919c36ff399ddfbcbf915315d0ef22b"), looks := true }, kinds := [], alts := [], laidByText := true, laidKinds := [.data, .data], laidTests := true, laidLooks := .later }
def SeeWaysUptoCardSaid : Prop := Claim7.holds Tryd.pinned (.plain (OpenSpec.upto seeWaysSpec)) seeWaysUptoCard

/-- THE SECOND FORM's CARD OF 'headwordlaw02.SeeCircles'. -/
def seeCirclesUptoCard : Claim7 := { stood := { row := seeCirclesUptoRow, standIns := [], harness := (true, "afebde5e95197bfceb092dea0fc993115919c36ff399ddfbcbf915315d0ef22b"), looks := true }, kinds := [], alts := [], laidByText := true, laidKinds := [.data, .data], laidTests := true, laidLooks := .later }
def SeeCirclesUptoCardSaid : Prop := Claim7.holds Tryd.pinned (.plain (OpenSpec.upto seeCirclesSpec)) seeCirclesUptoCard

/-- THE SECOND FORM's CARD OF 'headwordlaw02.SeeRichardson'. -/
def seeRichardsonUptoCard : Claim7 := { stood := { row := seeRichardsonUptoRow, standIns := [], harness := (true, "afebde5e95197bfceb092dea0fc993115919c36ff399ddfbcbf915315d0ef22b"), looks := true }, kinds := [], alts := [], laidByText := true, laidKinds := [.data, .data], laidTests := true, laidLooks := .later }
def SeeRichardsonUptoCardSaid : Prop := Claim7.holds Tryd.pinned (.plain (OpenSpec.upto seeRichardsonSpec)) seeRichardsonUptoCard

/-- THE SECOND FORM's CARD OF 'headwordlaw02.SeeOrdered'. -/
def seeOrderedUptoCard : Claim7 := { stood := { row := seeOrderedUptoRow, standIns := [], harness := (true, "afebde5e95197bfceb092dea0fc993115919c36ff399ddfbcbf915315d0ef22b"), looks := true }, kinds := [], alts := [], laidByText := true, laidKinds := [.data, .data], laidTests := true, laidLooks := .later }
def SeeOrderedUptoCardSaid : Prop := Claim7.holds Tryd.pinned (.plain (OpenSpec.upto seeOrderedSpec)) seeOrderedUptoCard

/-- THE SECOND FORM's CARD OF 'headwordlaw02.SeeTurned'. -/
def seeTurnedUptoCard : Claim7 := { stood := { row := seeTurnedUptoRow, standIns := [], harness := (true, "afebde5e95197bfceb092dea0fc993115919c36ff399ddfbcbf915315d0ef22b"), looks := true }, kinds := [], alts := [], laidByText := true, laidKinds := [.data, .data], laidTests := true, laidLooks := .later }
def SeeTurnedUptoCardSaid : Prop := Claim7.holds Tryd.pinned (.plain (OpenSpec.upto seeTurnedSpec)) seeTurnedUptoCard

/-- THE SECOND FORM's CARD OF 'headwordlaw02.SeeMutual'. -/
def seeMutualUptoCard : Claim7 := { stood := { row := seeMutualUptoRow, standIns := [], harness := (true, "afebde5e95197bfceb092dea0fc993115919c36ff399ddfbcbf915315d0ef22b"), looks := true }, kinds := [], alts := [], laidByText := true, laidKinds := [.data, .data], laidTests := true, laidLooks := .later }
def SeeMutualUptoCardSaid : Prop := Claim7.holds Tryd.pinned (.plain (OpenSpec.upto seeMutualSpec)) seeMutualUptoCard

/-- THE SECOND FORM's CARD OF 'headwordlaw02.SeeCounted'. -/
def seeCountedUptoCard : Claim7 := { stood := { row := seeCountedUptoRow, standIns := [], harness := (true, "afebde5e95197bfceb092dea0fc993115919c36ff399ddfbcbf915315d0ef22b"), looks := true }, kinds := [], alts := [], laidByText := true, laidKinds := [.data, .data], laidTests := true, laidLooks := .later }
def SeeCountedUptoCardSaid : Prop := Claim7.holds Tryd.pinned (.plain (OpenSpec.upto seeCountedSpec)) seeCountedUptoCard

/-- THE SECOND FORM's CARD OF 'headwordlaw02.SeeNear'. -/
def seeNearUptoCard : Claim7 := { stood := { row := seeNearUptoRow, standIns := [], harness := (true, "afebde5e95197bfceb092dea0fc993115919c36ff399ddfbcbf915315d0ef22b"), looks := true }, kinds := [], alts := [], laidByText := true, laidKinds := [.data, .data], laidTests := true, laidLooks := .later }
def SeeNearUptoCardSaid : Prop := Claim7.holds Tryd.pinned (.plain (OpenSpec.upto seeNearSpec)) seeNearUptoCard

/-- THE SECOND FORM's CARD OF 'headwordlaw02.SeeGrown'. -/
def seeGrownUptoCard : Claim7 := { stood := { row := seeGrownUptoRow, standIns := [], harness := (true, "afebde5e95197bfceb092dea0fc993115919c36ff399ddfbcbf915315d0ef22b"), looks := true }, kinds := [], alts := [], laidByText := true, laidKinds := [.data, .data], laidTests := true, laidLooks := .later }
def SeeGrownUptoCardSaid : Prop := Claim7.holds Tryd.pinned (.plain (OpenSpec.upto seeGrownSpec)) seeGrownUptoCard

/-- THE SECOND FORM's CARD OF 'headwordlaw02.SeeShown'. -/
def seeShownUptoCard : Claim7 := { stood := { row := seeShownUptoRow, standIns := [], harness := (true, "afebde5e95197bfceb092dea0fc993115919c36ff399ddfbcbf915315d0ef22b"), looks := true }, kinds := [], alts := [], laidByText := true, laidKinds := [.data, .data], laidTests := true, laidLooks := .later }
def SeeShownUptoCardSaid : Prop := Claim7.holds Tryd.pinned (.plain (OpenSpec.upto seeShownSpec)) seeShownUptoCard

/-- THE SECOND FORM's CARD OF 'headwordlaw02.SeeKnown'. -/
def seeKnownUptoCard : Claim7 := { stood := { row := seeKnownUptoRow, standIns := [], harness := (true, "afebde5e95197bfceb092dea0fc993115919c36ff399ddfbcbf915315d0ef22b"), looks := true }, kinds := [], alts := [], laidByText := true, laidKinds := [.data, .data], laidTests := true, laidLooks := .later }
def SeeKnownUptoCardSaid : Prop := Claim7.holds Tryd.pinned (.plain (OpenSpec.upto seeKnownSpec)) seeKnownUptoCard

/-- THE SECOND FORM's CARD OF 'headwordlaw02.SeeNamed'. -/
def seeNamedUptoCard : Claim7 := { stood := { row := seeNamedUptoRow, standIns := [], harness := (true, "afebde5e95197bfceb092dea0fc993115919c36ff399ddfbcbf915315d0ef22b"), looks := true }, kinds := [], alts := [], laidByText := true, laidKinds := [.data, .data], laidTests := true, laidLooks := .later }
def SeeNamedUptoCardSaid : Prop := Claim7.holds Tryd.pinned (.plain (OpenSpec.upto seeNamedSpec)) seeNamedUptoCard
end Rows
end Go.Proofs.YtgohohiaaiogcaaDoor
