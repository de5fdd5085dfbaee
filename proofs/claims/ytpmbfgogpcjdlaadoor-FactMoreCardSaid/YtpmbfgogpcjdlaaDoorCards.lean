/-
  DERIVED. GIVEN WITH THE SEED: THE CARDS: each row of YtpmbfgogpcjdlaaDoorRows.lean that lists a variable, with what it lists TIED to the program's text (the seventh form; the later family's looks); each row that meets fmt, with fmt's text TOLD by the authors' own Lean function (tested against real Go, not proved from fmt's source: count such statements apart). THE CARD IS WHAT COUNTS. Prove the row's statement (the work); the ties are given (YtpmbfgogpcjdlaaDoorTie.lean); close each card by the builder's one call (the guide's Derived/Test/ToyasCard.lean, 'card_holds'). Laid BY PROGRAM, IN A SANDBOX (cutbox-door.mjs). By AI agents, Wed Nov 11 2026. No macro, syntax, notation, axiom, sorry.
-/
import Derived.Test.YtpmbfgogpcjdlaaDoorRows
import GoSem.ClaimSeven
namespace Go.Proofs.YtpmbfgogpcjdlaaDoor
namespace Rows

/-- THE TIED CARD OF 'headwordlaw04.FactWrongs'. -/
def factWrongsCard : Claim7 := { stood := { row := factWrongsRow, standIns := [], harness := (true, "05fa2d890096d9e731689b40b5c09712b482c262e8dd60688e0cac6ff867f499"), looks := false }, kinds := [], alts := [], laidByText := true, laidKinds := [.data, .data], laidTests := true, laidLooks := .later }
def FactWrongsCardSaid : Prop := Claim7.holds Tryd.pinned (.plain (OpenSpec.ofChange factWrongsSpec)) factWrongsCard

/-- THE TIED CARD OF 'headwordlaw04.FactHalves'. -/
def factHalvesCard : Claim7 := { stood := { row := factHalvesRow, standIns := [], harness := (true, "05fa2d890096d9e731689b40b5c09712b482c262e8dd60688e0cac6ff867f499"), looks := false }, kinds := [], alts := [], laidByText := true, laidKinds := [.data, .data], laidTests := true, laidLooks := .later }
def FactHalvesCardSaid : Prop := Claim7.holds Tryd.pinned (.plain (OpenSpec.ofChange factHalvesSpec)) factHalvesCard

/-- THE TIED CARD OF 'headwordlaw04.FactShares'. -/
def factSharesCard : Claim7 := { stood := { row := factSharesRow, standIns := [], harness := (true, "05fa2d890096d9e731689b40b5c09712b482c262e8dd60688e0cac6ff867f499"), looks := false }, kinds := [], alts := [], laidByText := true, laidKinds := [.data, .data], laidTests := true, laidLooks := .later }
def FactSharesCardSaid : Prop := Claim7.holds Tryd.pinned (.plain (OpenSpec.ofChange factSharesSpec)) factSharesCard

/-- THE TIED CARD OF 'headwordlaw04.FactValued'. -/
def factValuedCard : Claim7 := { stood := { row := factValuedRow, standIns := [], harness := (true, "05fa2d890096d9e731689b40b5c09712b482c262e8dd60688e0cac6ff867f499"), looks := false }, kinds := [], alts := [], laidByText := true, laidKinds := [.data, .data], laidTests := true, laidLooks := .later }
def FactValuedCardSaid : Prop := Claim7.holds Tryd.pinned (.plain (OpenSpec.ofChange factValuedSpec)) factValuedCard

/-- THE TIED CARD OF 'headwordlaw04.FactShared'. -/
def factSharedCard : Claim7 := { stood := { row := factSharedRow, standIns := [], harness := (true, "05fa2d890096d9e731689b40b5c09712b482c262e8dd60688e0cac6ff867f499"), looks := false }, kinds := [], alts := [], laidByText := true, laidKinds := [.data, .data], laidTests := true, laidLooks := .later }
def FactSharedCardSaid : Prop := Claim7.holds Tryd.pinned (.plain (OpenSpec.ofChange factSharedSpec)) factSharedCard

/-- THE TIED CARD OF 'headwordlaw04.FactShown'. -/
def factShownCard : Claim7 := { stood := { row := factShownRow, standIns := [], harness := (true, "05fa2d890096d9e731689b40b5c09712b482c262e8dd60688e0cac6ff867f499"), looks := false }, kinds := [], alts := [], laidByText := true, laidKinds := [.data, .data], laidTests := true, laidLooks := .later }
def FactShownCardSaid : Prop := Claim7.holds Tryd.pinned (.plain (OpenSpec.ofChange factShownSpec)) factShownCard

/-- THE TIED CARD OF 'headwordlaw04.FactKnown'. -/
def factKnownCard : Claim7 := { stood := { row := factKnownRow, standIns := [], harness := (true, "05fa2d890096d9e731689b40b5c09712b482c262e8dd60688e0cac6ff867f499"), looks := false }, kinds := [], alts := [], laidByText := true, laidKinds := [.data, .data], laidTests := true, laidLooks := .later }
def FactKnownCardSaid : Prop := Claim7.holds Tryd.pinned (.plain (OpenSpec.ofChange factKnownSpec)) factKnownCard

/-- THE TIED CARD OF 'headwordlaw04.FactGiven'. -/
def factGivenCard : Claim7 := { stood := { row := factGivenRow, standIns := [], harness := (true, "05fa2d890096d9e731689b40b5c09712b482c262e8dd60688e0cac6ff867f499"), looks := false }, kinds := [], alts := [], laidByText := true, laidKinds := [.data, .data], laidTests := true, laidLooks := .later }
def FactGivenCardSaid : Prop := Claim7.holds Tryd.pinned (.plain (OpenSpec.ofChange factGivenSpec)) factGivenCard

/-- THE TIED CARD OF 'headwordlaw04.FactMore'. -/
def factMoreCard : Claim7 := { stood := { row := factMoreRow, standIns := [], harness := (true, "05fa2d890096d9e731689b40b5c09712b482c262e8dd60688e0cac6ff867f499"), looks := false }, kinds := [], alts := [], laidByText := true, laidKinds := [.data, .data], laidTests := true, laidLooks := .later }
def FactMoreCardSaid : Prop := Claim7.holds Tryd.pinned (.plain (OpenSpec.ofChange factMoreSpec)) factMoreCard

/-- THE TIED CARD OF 'headwordlaw04.FactNemhauser'. -/
def factNemhauserCard : Claim7 := { stood := { row := factNemhauserRow, standIns := [], harness := (true, "05fa2d890096d9e731689b40b5c09712b482c262e8dd60688e0cac6ff867f499"), looks := false }, kinds := [], alts := [], laidByText := true, laidKinds := [.data, .data], laidTests := true, laidLooks := .later }
def FactNemhauserCardSaid : Prop := Claim7.holds Tryd.pinned (.plain (OpenSpec.ofChange factNemhauserSpec)) factNemhauserCard

/-- THE TIED CARD OF 'headwordlaw04.FactBounds'. -/
def factBoundsCard : Claim7 := { stood := { row := factBoundsRow, standIns := [], harness := (true, "05fa2d890096d9e731689b40b5c09712b482c262e8dd60688e0cac6ff867f499"), looks := false }, kinds := [], alts := [], laidByText := true, laidKinds := [.data, .data], laidTests := true, laidLooks := .later }
def FactBoundsCardSaid : Prop := Claim7.holds Tryd.pinned (.plain (OpenSpec.ofChange factBoundsSpec)) factBoundsCard

/-- THE TIED CARD OF 'headwordlaw04.FactNamed'. -/
def factNamedCard : Claim7 := { stood := { row := factNamedRow, standIns := [], harness := (true, "05fa2d890096d9e731689b40b5c09712b482c262e8dd60688e0cac6ff867f499"), looks := false }, kinds := [], alts := [], laidByText := true, laidKinds := [.data, .data], laidTests := true, laidLooks := .later }
def FactNamedCardSaid : Prop := Claim7.holds Tryd.pinned (.plain (OpenSpec.ofChange factNamedSpec)) factNamedCard

/-- THE TIED CARD OF 'headwordlaw04.FactRinged'. -/
def factRingedCard : Claim7 := { stood := { row := factRingedRow, standIns := [], harness := (true, "05fa2d890096d9e731689b40b5c09712b482c262e8dd60688e0cac6ff867f499"), looks := false }, kinds := [], alts := [], laidByText := true, laidKinds := [.data, .data], laidTests := true, laidLooks := .later }
def FactRingedCardSaid : Prop := Claim7.holds Tryd.pinned (.plain (OpenSpec.ofChange factRingedSpec)) factRingedCard

/-- THE SECOND FORM's CARD OF 'headwordlaw04.FactWrongs'. -/
def factWrongsUptoCard : Claim7 := { stood := { row := factWrongsUptoRow, standIns := [], harness := (true, "05fa2d890096d9e731689b40b5c09712b482c262e8dd60688e0cac6ff867f499"), looks := false }, kinds := [], alts := [], laidByText := true, laidKinds := [.data, .data], laidTests := true, laidLooks := .later }
def FactWrongsUptoCardSaid : Prop := Claim7.holds Tryd.pinned (.plain (OpenSpec.upto factWrongsSpec)) factWrongsUptoCard

/-- THE SECOND FORM's CARD OF 'headwordlaw04.FactHalves'. -/
def factHalvesUptoCard : Claim7 := { stood := { row := factHalvesUptoRow, standIns := [], harness := (true, "05fa2d890096d9e731689b40b5c09712b482c262e8dd60688e0cac6ff867f499"), looks := false }, kinds := [], alts := [], laidByText := true, laidKinds := [.data, .data], laidTests := true, laidLooks := .later }
def FactHalvesUptoCardSaid : Prop := Claim7.holds Tryd.pinned (.plain (OpenSpec.upto factHalvesSpec)) factHalvesUptoCard

/-- THE SECOND FORM's CARD OF 'headwordlaw04.FactShares'. -/
def factSharesUptoCard : Claim7 := { stood := { row := factSharesUptoRow, standIns := [], harness := (true, "05fa2d890096d9e731689b40b5c09712b482c262e8dd60688e0cac6ff867f499"), looks := false }, kinds := [], alts := [], laidByText := true, laidKinds := [.data, .data], laidTests := true, laidLooks := .later }
def FactSharesUptoCardSaid : Prop := Claim7.holds Tryd.pinned (.plain (OpenSpec.upto factSharesSpec)) factSharesUptoCard

/-- THE SECOND FORM's CARD OF 'headwordlaw04.FactValued'. -/
def factValuedUptoCard : Claim7 := { stood := { row := factValuedUptoRow, standIns := [], harness := (true, "05fa2d890096d9e731689b40b5c09712b482c262e8dd60688e0cac6ff867f499"), looks := false }, kinds := [], alts := [], laidByText := true, laidKinds := [.data, .data], laidTests := true, laidLooks := .later }
def FactValuedUptoCardSaid : Prop := Claim7.holds Tryd.pinned (.plain (OpenSpec.upto factValuedSpec)) factValuedUptoCard

/-- THE SECOND FORM's CARD OF 'headwordlaw04.FactShared'. -/
def factSharedUptoCard : Claim7 := { stood := { row := factSharedUptoRow, standIns := [], harness := (true, "05fa2d890096d9e731689b40b5c09712b482c262e8dd60688e0cac6ff867f499"), looks := false }, kinds := [], alts := [], laidByText := true, laidKinds := [.data, .data], laidTests := true, laidLooks := .later }
def FactSharedUptoCardSaid : Prop := Claim7.holds Tryd.pinned (.plain (OpenSpec.upto factSharedSpec)) factSharedUptoCard

/-- THE SECOND FORM's CARD OF 'headwordlaw04.FactShown'. -/
def factShownUptoCard : Claim7 := { stood := { row := factShownUptoRow, standIns := [], harness := (true, "05fa2d890096d9e731689b40b5c09712b482c262e8dd60688e0cac6ff867f499"), looks := false }, kinds := [], alts := [], laidByText := true, laidKinds := [.data, .data], laidTests := true, laidLooks := .later }
def FactShownUptoCardSaid : Prop := Claim7.holds Tryd.pinned (.plain (OpenSpec.upto factShownSpec)) factShownUptoCard

/-- THE SECOND FORM's CARD OF 'headwordlaw04.FactKnown'. -/
def factKnownUptoCard : Claim7 := { stood := { row := factKnownUptoRow, standIns := [], harness := (true, "05fa2d890096d9e731689b40b5c09712b482c262e8dd60688e0cac6ff867f499"), looks := false }, kinds := [], alts := [], laidByText := true, laidKinds := [.data, .data], laidTests := true, laidLooks := .later }
def FactKnownUptoCardSaid : Prop := Claim7.holds Tryd.pinned (.plain (OpenSpec.upto factKnownSpec)) factKnownUptoCard

/-- THE SECOND FORM's CARD OF 'headwordlaw04.FactGiven'. -/
def factGivenUptoCard : Claim7 := { stood := { row := factGivenUptoRow, standIns := [], harness := (true, "05fa2d890096d9e731689b40b5c09712b482c262e8dd60688e0cac6ff867f499"), looks := false }, kinds := [], alts := [], laidByText := true, laidKinds := [.data, .data], laidTests := true, laidLooks := .later }
def FactGivenUptoCardSaid : Prop := Claim7.holds Tryd.pinned (.plain (OpenSpec.upto factGivenSpec)) factGivenUptoCard

/-- THE SECOND FORM's CARD OF 'headwordlaw04.FactMore'. -/
def factMoreUptoCard : Claim7 := { stood := { row := factMoreUptoRow, standIns := [], harness := (true, "05fa2d890096d9e731689b40b5c09712b482c262e8dd60688e0cac6ff867f499"), looks := false }, kinds := [], alts := [], laidByText := true, laidKinds := [.data, .data], laidTests := true, laidLooks := .later }
def FactMoreUptoCardSaid : Prop := Claim7.holds Tryd.pinned (.plain (OpenSpec.upto factMoreSpec)) factMoreUptoCard

/-- THE SECOND FORM's CARD OF 'headwordlaw04.FactNemhauser'. -/
def factNemhauserUptoCard : Claim7 := { stood := { row := factNemhauserUptoRow, standIns := [], harness := (true, "05fa2d890096d9e731689b40b5c09712b482c262e8dd60688e0cac6ff867f499"), looks := false }, kinds := [], alts := [], laidByText := true, laidKinds := [.data, .data], laidTests := true, laidLooks := .later }
def FactNemhauserUptoCardSaid : Prop := Claim7.holds Tryd.pinned (.plain (OpenSpec.upto factNemhauserSpec)) factNemhauserUptoCard

/-- THE SECOND FORM's CARD OF 'headwordlaw04.FactBounds'. -/
def factBoundsUptoCard : Claim7 := { stood := { row := factBoundsUptoRow, standIns := [], harness := (true, "05fa2d890096d9e731689b40b5c09712b482c262e8dd60688e0cac6ff867f499"), looks := false }, kinds := [], alts := [], laidByText := true, laidKinds := [.data, .data], laidTests := true, laidLooks := .later }
def FactBoundsUptoCardSaid : Prop := Claim7.holds Tryd.pinned (.plain (OpenSpec.upto factBoundsSpec)) factBoundsUptoCard

/-- THE SECOND FORM's CARD OF 'headwordlaw04.FactNamed'. -/
def factNamedUptoCard : Claim7 := { stood := { row := factNamedUptoRow, standIns := [], harness := (true, "05fa2d890096d9e731689b40b5c09712b482c262e8dd60688e0cac6ff867f499"), looks := false }, kinds := [], alts := [], laidByText := true, laidKinds := [.data, .data], laidTests := true, laidLooks := .later }
def FactNamedUptoCardSaid : Prop := Claim7.holds Tryd.pinned (.plain (OpenSpec.upto factNamedSpec)) factNamedUptoCard

/-- THE SECOND FORM's CARD OF 'headwordlaw04.FactRinged'. -/
def factRingedUptoCard : Claim7 := { stood := { row := factRingedUptoRow, standIns := [], harness := (true, "05fa2d890096d9e731689b40b5c09712b482c262e8dd60688e0cac6ff867f499"), looks := false }, kinds := [], alts := [], laidByText := true, laidKinds := [.data, .data], laidTests := true, laidLooks := .later }
def FactRingedUptoCardSaid : Prop := Claim7.holds Tryd.pinned (.plain (OpenSpec.upto factRingedSpec)) factRingedUptoCard
end Rows
end Go.Proofs.YtpmbfgogpcjdlaaDoor
