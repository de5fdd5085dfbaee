/-
  DERIVED. GIVEN WITH THE SEED: THE CARDS: each row of YtdnmhlfjafjkbaaGreatDoorRows.lean that lists a variable, with what it lists TIED to the program's text (the seventh form; the later family's looks); each row that meets fmt, with fmt's text TOLD by the authors' own Lean function (tested against real Go, not proved from fmt's source: count such statements apart). THE CARD IS WHAT COUNTS. Prove the row's statement (the work); the ties are given (YtdnmhlfjafjkbaaGreatDoorTie.lean); close each card by the builder's one call (the guide's Derived/Test/ToyasCard.lean, 'card_holds'). Laid BY PROGRAM, IN A SANDBOX (cutbox-door.mjs). By AI agents, Wed Nov 11 2026. No macro, syntax, notation, axiom, sorry.
-/
import Derived.Test.YtdnmhlfjafjkbaaGreatDoorRows
import GoSem.ClaimSeven
namespace Go.Proofs.YtdnmhlfjafjkbaaGreatDoor
namespace Rows

/-- THE TIED CARD OF 'headwordlaw05.ClassClashes'. -/
def classClashesCard : Claim7 := { stood := { row := classClashesRow, standIns := [], harness := (true, "e443b60f0dc5cbb4d1899001fbb29c86fcfbd1d6c61e17659ea4c3a4174075b7"), looks := false }, kinds := [], alts := [], laidByText := true, laidKinds := [.data, .data], laidTests := true, laidLooks := .later }
def ClassClashesCardSaid : Prop := Claim7.holds Tryz.pinned (.plain (OpenSpec.ofChange classClashesSpec)) classClashesCard

/-- THE TIED CARD OF 'headwordlaw05.ClassTrees'. -/
def classTreesCard : Claim7 := { stood := { row := classTreesRow, standIns := [], harness := (true, "e443b60f0dc5cbb4d1899001fbb29c86fcfbd1d6c61e17659ea4c3a4174075b7"), looks := false }, kinds := [], alts := [], laidByText := true, laidKinds := [.data, .data], laidTests := true, laidLooks := .later }
def ClassTreesCardSaid : Prop := Claim7.holds Tryz.pinned (.plain (OpenSpec.ofChange classTreesSpec)) classTreesCard

/-- THE TIED CARD OF 'headwordlaw05.ClassFar'. -/
def classFarCard : Claim7 := { stood := { row := classFarRow, standIns := [], harness := (true, "e443b60f0dc5cbb4d1899001fbb29c86fcfbd1d6c61e17659ea4c3a4174075b7"), looks := false }, kinds := [], alts := [], laidByText := true, laidKinds := [.data, .data], laidTests := true, laidLooks := .later }
def ClassFarCardSaid : Prop := Claim7.holds Tryz.pinned (.plain (OpenSpec.ofChange classFarSpec)) classFarCard

/-- THE TIED CARD OF 'headwordlaw05.ClassMost'. -/
def classMostCard : Claim7 := { stood := { row := classMostRow, standIns := [], harness := (true, "e443b60f0dc5cbb4d1899001fbb29c86fcfbd1d6c61e17659ea4c3a4174075b7"), looks := false }, kinds := [], alts := [], laidByText := true, laidKinds := [.data, .data], laidTests := true, laidLooks := .later }
def ClassMostCardSaid : Prop := Claim7.holds Tryz.pinned (.plain (OpenSpec.ofChange classMostSpec)) classMostCard

/-- THE TIED CARD OF 'headwordlaw05.ClassSides'. -/
def classSidesCard : Claim7 := { stood := { row := classSidesRow, standIns := [], harness := (true, "e443b60f0dc5cbb4d1899001fbb29c86fcfbd1d6c61e17659ea4c3a4174075b7"), looks := false }, kinds := [], alts := [], laidByText := true, laidKinds := [.data, .data], laidTests := true, laidLooks := .later }
def ClassSidesCardSaid : Prop := Claim7.holds Tryz.pinned (.plain (OpenSpec.ofChange classSidesSpec)) classSidesCard

/-- THE TIED CARD OF 'headwordlaw05.ClassBuneman'. -/
def classBunemanCard : Claim7 := { stood := { row := classBunemanRow, standIns := [], harness := (true, "e443b60f0dc5cbb4d1899001fbb29c86fcfbd1d6c61e17659ea4c3a4174075b7"), looks := false }, kinds := [], alts := [], laidByText := true, laidKinds := [.data, .data], laidTests := true, laidLooks := .later }
def ClassBunemanCardSaid : Prop := Claim7.holds Tryz.pinned (.plain (OpenSpec.ofChange classBunemanSpec)) classBunemanCard

/-- THE TIED CARD OF 'headwordlaw05.ClassFilled'. -/
def classFilledCard : Claim7 := { stood := { row := classFilledRow, standIns := [], harness := (true, "e443b60f0dc5cbb4d1899001fbb29c86fcfbd1d6c61e17659ea4c3a4174075b7"), looks := false }, kinds := [], alts := [], laidByText := true, laidKinds := [.data, .data], laidTests := true, laidLooks := .later }
def ClassFilledCardSaid : Prop := Claim7.holds Tryz.pinned (.plain (OpenSpec.ofChange classFilledSpec)) classFilledCard

/-- THE TIED CARD OF 'headwordlaw05.ClassPairs'. -/
def classPairsCard : Claim7 := { stood := { row := classPairsRow, standIns := [], harness := (true, "e443b60f0dc5cbb4d1899001fbb29c86fcfbd1d6c61e17659ea4c3a4174075b7"), looks := false }, kinds := [], alts := [], laidByText := true, laidKinds := [.data, .data], laidTests := true, laidLooks := .later }
def ClassPairsCardSaid : Prop := Claim7.holds Tryz.pinned (.plain (OpenSpec.ofChange classPairsSpec)) classPairsCard

/-- THE TIED CARD OF 'headwordlaw05.ClassBack'. -/
def classBackCard : Claim7 := { stood := { row := classBackRow, standIns := [], harness := (true, "e443b60f0dc5cbb4d1899001fbb29c86fcfbd1d6c61e17659ea4c3a4174075b7"), looks := false }, kinds := [], alts := [], laidByText := true, laidKinds := [.data, .data], laidTests := true, laidLooks := .later }
def ClassBackCardSaid : Prop := Claim7.holds Tryz.pinned (.plain (OpenSpec.ofChange classBackSpec)) classBackCard

/-- THE TIED CARD OF 'headwordlaw05.ClassWays'. -/
def classWaysCard : Claim7 := { stood := { row := classWaysRow, standIns := [], harness := (true, "e443b60f0dc5cbb4d1899001fbb29c86fcfbd1d6c61e17659ea4c3a4174075b7"), looks := false }, kinds := [], alts := [], laidByText := true, laidKinds := [.data, .data], laidTests := true, laidLooks := .later }
def ClassWaysCardSaid : Prop := Claim7.holds Tryz.pinned (.plain (OpenSpec.ofChange classWaysSpec)) classWaysCard

/-- THE TIED CARD OF 'headwordlaw05.ClassNamed'. -/
def classNamedCard : Claim7 := { stood := { row := classNamedRow, standIns := [], harness := (true, "e443b60f0dc5cbb4d1899001fbb29c86fcfbd1d6c61e17659ea4c3a4174075b7"), looks := false }, kinds := [], alts := [], laidByText := true, laidKinds := [.data, .data], laidTests := true, laidLooks := .later }
def ClassNamedCardSaid : Prop := Claim7.holds Tryz.pinned (.plain (OpenSpec.ofChange classNamedSpec)) classNamedCard

/-- THE SECOND FORM's CARD OF 'headwordlaw05.ClassClashes'. -/
def classClashesUptoCard : Claim7 := { stood := { row := classClashesUptoRow, standIns := [], harness := (true, "e443b60f0dc5cbb4d1899001fbb29c86fcfbd1d6c61e17659ea4c3a4174075b7"), looks := false }, kinds := [], alts := [], laidByText := true, laidKinds := [.data, .data], laidTests := true, laidLooks := .later }
def ClassClashesUptoCardSaid : Prop := Claim7.holds Tryz.pinned (.plain (OpenSpec.upto classClashesSpec)) classClashesUptoCard

/-- THE SECOND FORM's CARD OF 'headwordlaw05.ClassTrees'. -/
def classTreesUptoCard : Claim7 := { stood := { row := classTreesUptoRow, standIns := [], harness := (true, "e443b60f0dc5cbb4d1899001fbb29c86fcfbd1d6c61e17659ea4c3a4174075b7"), looks := false }, kinds := [], alts := [], laidByText := true, laidKinds := [.data, .data], laidTests := true, laidLooks := .later }
def ClassTreesUptoCardSaid : Prop := Claim7.holds Tryz.pinned (.plain (OpenSpec.upto classTreesSpec)) classTreesUptoCard

/-- THE SECOND FORM's CARD OF 'headwordlaw05.ClassFar'. -/
def classFarUptoCard : Claim7 := { stood := { row := classFarUptoRow, standIns := [], harness := (true, "e443b60f0dc5cbb4d1899001fbb29c86fcfbd1d6c61e17659ea4c3a4174075b7"), looks := false }, kinds := [], alts := [], laidByText := true, laidKinds := [.data, .data], laidTests := true, laidLooks := .later }
def ClassFarUptoCardSaid : Prop := Claim7.holds Tryz.pinned (.plain (OpenSpec.upto classFarSpec)) classFarUptoCard

/-- THE SECOND FORM's CARD OF 'headwordlaw05.ClassMost'. -/
def classMostUptoCard : Claim7 := { stood := { row := classMostUptoRow, standIns := [], harness := (true, "e443b60f0dc5cbb4d1899001fbb29c86fcfbd1d6c61e17659ea4c3a4174075b7"), looks := false }, kinds := [], alts := [], laidByText := true, laidKinds := [.data, .data], laidTests := true, laidLooks := .later }
def ClassMostUptoCardSaid : Prop := Claim7.holds Tryz.pinned (.plain (OpenSpec.upto classMostSpec)) classMostUptoCard

/-- THE SECOND FORM's CARD OF 'headwordlaw05.ClassSides'. -/
def classSidesUptoCard : Claim7 := { stood := { row := classSidesUptoRow, standIns := [], harness := (true, "e443b60f0dc5cbb4d1899001fbb29c86fcfbd1d6c61e17659ea4c3a4174075b7"), looks := false }, kinds := [], alts := [], laidByText := true, laidKinds := [.data, .data], laidTests := true, laidLooks := .later }
def ClassSidesUptoCardSaid : Prop := Claim7.holds Tryz.pinned (.plain (OpenSpec.upto classSidesSpec)) classSidesUptoCard

/-- THE SECOND FORM's CARD OF 'headwordlaw05.ClassBuneman'. -/
def classBunemanUptoCard : Claim7 := { stood := { row := classBunemanUptoRow, standIns := [], harness := (true, "e443b60f0dc5cbb4d1899001fbb29c86fcfbd1d6c61e17659ea4c3a4174075b7"), looks := false }, kinds := [], alts := [], laidByText := true, laidKinds := [.data, .data], laidTests := true, laidLooks := .later }
def ClassBunemanUptoCardSaid : Prop := Claim7.holds Tryz.pinned (.plain (OpenSpec.upto classBunemanSpec)) classBunemanUptoCard

/-- THE SECOND FORM's CARD OF 'headwordlaw05.ClassFilled'. -/
def classFilledUptoCard : Claim7 := { stood := { row := classFilledUptoRow, standIns := [], harness := (true, "e443b60f0dc5cbb4d1899001fbb29c86fcfbd1d6c61e17659ea4c3a4174075b7"), looks := false }, kinds := [], alts := [], laidByText := true, laidKinds := [.data, .data], laidTests := true, laidLooks := .later }
def ClassFilledUptoCardSaid : Prop := Claim7.holds Tryz.pinned (.plain (OpenSpec.upto classFilledSpec)) classFilledUptoCard

/-- THE SECOND FORM's CARD OF 'headwordlaw05.ClassPairs'. -/
def classPairsUptoCard : Claim7 := { stood := { row := classPairsUptoRow, standIns := [], harness := (true, "e443b60f0dc5cbb4d1899001fbb29c86fcfbd1d6c61e17659ea4c3a4174075b7"), looks := false }, kinds := [], alts := [], laidByText := true, laidKinds := [.data, .data], laidTests := true, laidLooks := .later }
def ClassPairsUptoCardSaid : Prop := Claim7.holds Tryz.pinned (.plain (OpenSpec.upto classPairsSpec)) classPairsUptoCard

/-- THE SECOND FORM's CARD OF 'headwordlaw05.ClassBack'. -/
def classBackUptoCard : Claim7 := { stood := { row := classBackUptoRow, standIns := [], harness := (true, "e443b60f0dc5cbb4d1899001fbb29c86fcfbd1d6c61e17659ea4c3a4174075b7"), looks := false }, kinds := [], alts := [], laidByText := true, laidKinds := [.data, .data], laidTests := true, laidLooks := .later }
def ClassBackUptoCardSaid : Prop := Claim7.holds Tryz.pinned (.plain (OpenSpec.upto classBackSpec)) classBackUptoCard

/-- THE SECOND FORM's CARD OF 'headwordlaw05.ClassWays'. -/
def classWaysUptoCard : Claim7 := { stood := { row := classWaysUptoRow, standIns := [], harness := (true, "e443b60f0dc5cbb4d1899001fbb29c86fcfbd1d6c61e17659ea4c3a4174075b7"), looks := false }, kinds := [], alts := [], laidByText := true, laidKinds := [.data, .data], laidTests := true, laidLooks := .later }
def ClassWaysUptoCardSaid : Prop := Claim7.holds Tryz.pinned (.plain (OpenSpec.upto classWaysSpec)) classWaysUptoCard

/-- THE SECOND FORM's CARD OF 'headwordlaw05.ClassNamed'. -/
def classNamedUptoCard : Claim7 := { stood := { row := classNamedUptoRow, standIns := [], harness := (true, "e443b60f0dc5cbb4d1899001fbb29c86fcfbd1d6c61e17659ea4c3a4174075b7"), looks := false }, kinds := [], alts := [], laidByText := true, laidKinds := [.data, .data], laidTests := true, laidLooks := .later }
def ClassNamedUptoCardSaid : Prop := Claim7.holds Tryz.pinned (.plain (OpenSpec.upto classNamedSpec)) classNamedUptoCard
end Rows
end Go.Proofs.YtdnmhlfjafjkbaaGreatDoor
