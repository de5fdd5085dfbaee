/-
  DERIVED. GIVEN WITH THE SEED: THE CARDS: each row of YtdnjagnechibhaaGreatDoorRows.lean that lists a variable, with what it lists TIED to the program's text (the seventh form; the later family's looks); each row that meets fmt, with fmt's text TOLD by the authors' own Lean function (tested against real Go, not proved from fmt's source: count such statements apart). THE CARD IS WHAT COUNTS. Prove the row's statement (the work); the ties are given (YtdnjagnechibhaaGreatDoorTie.lean); close each card by the builder's one call (the guide's Derived/Test/ToyasCard.lean, 'card_holds'). Laid BY PROGRAM, IN A SANDBOX (cutbox-door.mjs). By AI agents, Wed Nov 11 2026. No macro, syntax, notation, axiom, sorry.
-/
import Derived.Test.YtdnjagnechibhaaGreatDoorRows
import GoSem.ClaimSeven
namespace Go.Proofs.YtdnjagnechibhaaGreatDoor
namespace Rows

/-- THE TIED CARD OF 'headwordtop.TopTimes'. -/
def topTimesCard : Claim7 := { stood := { row := topTimesRow, standIns := [], harness := (true, "f470acc14b5f21bb5eafc52218b8475eb3de24083c90c35a174d40065aa3b548"), looks := true }, kinds := [], alts := [], laidByText := true, laidKinds := [.data, .data, .data, .pinned], laidTests := true, laidLooks := .later }
def TopTimesCardSaid : Prop := Claim7.holds Tryz.pinned (.plain (OpenSpec.ofChange topTimesSpec)) topTimesCard

/-- THE TIED CARD OF 'headwordtop.TopCovered'. -/
def topCoveredCard : Claim7 := { stood := { row := topCoveredRow, standIns := [], harness := (true, "f470acc14b5f21bb5eafc52218b8475eb3de24083c90c35a174d40065aa3b548"), looks := true }, kinds := [], alts := [], laidByText := true, laidKinds := [.data, .data, .data, .pinned], laidTests := true, laidLooks := .later }
def TopCoveredCardSaid : Prop := Claim7.holds Tryz.pinned (.plain (OpenSpec.ofChange topCoveredSpec)) topCoveredCard

/-- THE TIED CARD OF 'headwordtop.TopTurnedPile'. -/
def topTurnedPileCard : Claim7 := { stood := { row := topTurnedPileRow, standIns := [], harness := (true, "f470acc14b5f21bb5eafc52218b8475eb3de24083c90c35a174d40065aa3b548"), looks := true }, kinds := [], alts := [], laidByText := true, laidKinds := [.data, .data, .data, .pinned], laidTests := true, laidLooks := .later }
def TopTurnedPileCardSaid : Prop := Claim7.holds Tryz.pinned (.plain (OpenSpec.ofChange topTurnedPileSpec)) topTurnedPileCard

/-- THE TIED CARD OF 'headwordtop.TopVolumes'. -/
def topVolumesCard : Claim7 := { stood := { row := topVolumesRow, standIns := [], harness := (true, "f470acc14b5f21bb5eafc52218b8475eb3de24083c90c35a174d40065aa3b548"), looks := true }, kinds := [], alts := [], laidByText := true, laidKinds := [.data, .data, .data, .pinned], laidTests := true, laidLooks := .later }
def TopVolumesCardSaid : Prop := Claim7.holds Tryz.pinned (.plain (OpenSpec.ofChange topVolumesSpec)) topVolumesCard

/-- THE TIED CARD OF 'headwordtop.TopGrouped'. -/
def topGroupedCard : Claim7 := { stood := { row := topGroupedRow, standIns := [], harness := (true, "f470acc14b5f21bb5eafc52218b8475eb3de24083c90c35a174d40065aa3b548"), looks := true }, kinds := [], alts := [], laidByText := true, laidKinds := [.data, .data, .data, .pinned], laidTests := true, laidLooks := .later }
def TopGroupedCardSaid : Prop := Claim7.holds Tryz.pinned (.plain (OpenSpec.ofChange topGroupedSpec)) topGroupedCard

/-- THE TIED CARD OF 'headwordtop.TopEqual'. -/
def topEqualCard : Claim7 := { stood := { row := topEqualRow, standIns := [], harness := (true, "f470acc14b5f21bb5eafc52218b8475eb3de24083c90c35a174d40065aa3b548"), looks := true }, kinds := [], alts := [], laidByText := true, laidKinds := [.data, .data, .data, .pinned], laidTests := true, laidLooks := .later }
def TopEqualCardSaid : Prop := Claim7.holds Tryz.pinned (.plain (OpenSpec.ofChange topEqualSpec)) topEqualCard

/-- THE TIED CARD OF 'headwordtop.TopYears'. -/
def topYearsCard : Claim7 := { stood := { row := topYearsRow, standIns := [], harness := (true, "f470acc14b5f21bb5eafc52218b8475eb3de24083c90c35a174d40065aa3b548"), looks := true }, kinds := [], alts := [], laidByText := true, laidKinds := [.data, .data, .data, .pinned], laidTests := true, laidLooks := .later }
def TopYearsCardSaid : Prop := Claim7.holds Tryz.pinned (.plain (OpenSpec.ofChange topYearsSpec)) topYearsCard

/-- THE SECOND FORM's CARD OF 'headwordtop.TopTimes'. -/
def topTimesUptoCard : Claim7 := { stood := { row := topTimesUptoRow, standIns := [], harness := (true, "f470acc14b5f21bb5eafc52218b8475eb3de24083c90c35a174d40065aa3b548"), looks := true }, kinds := [], alts := [], laidByText := true, laidKinds := [.data, .data, .data, .pinned], laidTests := true, laidLooks := .later }
def TopTimesUptoCardSaid : Prop := Claim7.holds Tryz.pinned (.plain (OpenSpec.upto topTimesSpec)) topTimesUptoCard

/-- THE SECOND FORM's CARD OF 'headwordtop.TopCovered'. -/
def topCoveredUptoCard : Claim7 := { stood := { row := topCoveredUptoRow, standIns := [], harness := (true, "f470acc14b5f21bb5eafc52218b8475eb3de24083c90c35a174d40065aa3b548"), looks := true }, kinds := [], alts := [], laidByText := true, laidKinds := [.data, .data, .data, .pinned], laidTests := true, laidLooks := .later }
def TopCoveredUptoCardSaid : Prop := Claim7.holds Tryz.pinned (.plain (OpenSpec.upto topCoveredSpec)) topCoveredUptoCard

/-- THE SECOND FORM's CARD OF 'headwordtop.TopTurnedPile'. -/
def topTurnedPileUptoCard : Claim7 := { stood := { row := topTurnedPileUptoRow, standIns := [], harness := (true, "f470acc14b5f21bb5eafc52218b8475eb3de24083c90c35a174d40065aa3b548"), looks := true }, kinds := [], alts := [], laidByText := true, laidKinds := [.data, .data, .data, .pinned], laidTests := true, laidLooks := .later }
def TopTurnedPileUptoCardSaid : Prop := Claim7.holds Tryz.pinned (.plain (OpenSpec.upto topTurnedPileSpec)) topTurnedPileUptoCard

/-- THE SECOND FORM's CARD OF 'headwordtop.TopVolumes'. -/
def topVolumesUptoCard : Claim7 := { stood := { row := topVolumesUptoRow, standIns := [], harness := (true, "f470acc14b5f21bb5eafc52218b8475eb3de24083c90c35a174d40065aa3b548"), looks := true }, kinds := [], alts := [], laidByText := true, laidKinds := [.data, .data, .data, .pinned], laidTests := true, laidLooks := .later }
def TopVolumesUptoCardSaid : Prop := Claim7.holds Tryz.pinned (.plain (OpenSpec.upto topVolumesSpec)) topVolumesUptoCard

/-- THE SECOND FORM's CARD OF 'headwordtop.TopGrouped'. -/
def topGroupedUptoCard : Claim7 := { stood := { row := topGroupedUptoRow, standIns := [], harness := (true, "f470acc14b5f21bb5eafc52218b8475eb3de24083c90c35a174d40065aa3b548"), looks := true }, kinds := [], alts := [], laidByText := true, laidKinds := [.data, .data, .data, .pinned], laidTests := true, laidLooks := .later }
def TopGroupedUptoCardSaid : Prop := Claim7.holds Tryz.pinned (.plain (OpenSpec.upto topGroupedSpec)) topGroupedUptoCard

/-- THE SECOND FORM's CARD OF 'headwordtop.TopEqual'. -/
def topEqualUptoCard : Claim7 := { stood := { row := topEqualUptoRow, standIns := [], harness := (true, "f470acc14b5f21bb5eafc52218b8475eb3de24083c90c35a174d40065aa3b548"), looks := true }, kinds := [], alts := [], laidByText := true, laidKinds := [.data, .data, .data, .pinned], laidTests := true, laidLooks := .later }
def TopEqualUptoCardSaid : Prop := Claim7.holds Tryz.pinned (.plain (OpenSpec.upto topEqualSpec)) topEqualUptoCard

/-- THE SECOND FORM's CARD OF 'headwordtop.TopYears'. -/
def topYearsUptoCard : Claim7 := { stood := { row := topYearsUptoRow, standIns := [], harness := (true, "f470acc14b5f21bb5eafc52218b8475eb3de24083c90c35a174d40065aa3b548"), looks := true }, kinds := [], alts := [], laidByText := true, laidKinds := [.data, .data, .data, .pinned], laidTests := true, laidLooks := .later }
def TopYearsUptoCardSaid : Prop := Claim7.holds Tryz.pinned (.plain (OpenSpec.upto topYearsSpec)) topYearsUptoCard
end Rows
end Go.Proofs.YtdnjagnechibhaaGreatDoor
