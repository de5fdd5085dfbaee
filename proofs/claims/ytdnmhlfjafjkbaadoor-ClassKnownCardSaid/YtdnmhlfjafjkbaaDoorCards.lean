/-
  DERIVED. GIVEN WITH THE SEED: THE CARDS: each row of YtdnmhlfjafjkbaaDoorRows.lean that lists a variable, with what it lists TIED to the program's text (the seventh form; the later family's looks); each row that meets fmt, with fmt's text TOLD by the authors' own Lean function (tested against real Go, not proved from fmt's source: count such statements apart). THE CARD IS WHAT COUNTS. Prove the row's statement (the work); the ties are given (YtdnmhlfjafjkbaaDoorTie.lean); close each card by the builder's one call (the guide's Derived/Test/ToyasCard.lean, 'card_holds'). Laid BY PROGRAM, IN A SANDBOX (cutbox-door.mjs). By AI agents, Wed Nov 11 2026. No macro, syntax, notation, axiom, sorry.
-/
import Derived.Test.YtdnmhlfjafjkbaaDoorRows
import GoSem.ClaimSeven
namespace Go.Proofs.YtdnmhlfjafjkbaaDoor
namespace Rows

/-- THE TIED CARD OF 'headwordlaw05.ClassKnown'. -/
def classKnownCard : Claim7 := { stood := { row := classKnownRow, standIns := [], harness := (true, "260ec1fbed318a998e2b570cfc73cd7f3ae6df9a8f44cdd78e8db74ebc57466d"), looks := false }, kinds := [], alts := [], laidByText := true, laidKinds := [.data, .data], laidTests := true, laidLooks := .later }
def ClassKnownCardSaid : Prop := Claim7.holds Tryd.pinned (.plain (OpenSpec.ofChange classKnownSpec)) classKnownCard

/-- THE SECOND FORM's CARD OF 'headwordlaw05.ClassKnown'. -/
def classKnownUptoCard : Claim7 := { stood := { row := classKnownUptoRow, standIns := [], harness := (true, "260ec1fbed318a998e2b570cfc73cd7f3ae6df9a8f44cdd78e8db74ebc57466d"), looks := false }, kinds := [], alts := [], laidByText := true, laidKinds := [.data, .data], laidTests := true, laidLooks := .later }
def ClassKnownUptoCardSaid : Prop := Claim7.holds Tryd.pinned (.plain (OpenSpec.upto classKnownSpec)) classKnownUptoCard
end Rows
end Go.Proofs.YtdnmhlfjafjkbaaDoor
