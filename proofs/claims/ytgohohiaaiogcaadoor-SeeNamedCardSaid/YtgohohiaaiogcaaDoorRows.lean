/-
  NARROWER THAN 'FOR EVERY INPUT', by the rows' own cells (each row's printed sentence says how): SeeChoices: laid · SeeRings: laid · SeeWays: laid · SeeCircles: laid · SeeRichardson: laid · SeeOrdered: laid · SeeTurned: laid · SeeMutual: laid · SeeCounted: laid · SeeNear: laid · SeeGrown: laid · SeeShown: laid · SeeKnown: laid · SeeNamed: laid.
  DERIVED. THE GIVEN ROWS OF THIS SEAT. 14 by the template 'for every input the law returns true; each argument reads behind the call as it read before'; 0 by the template 'total and deterministic' (their statements: YtgohohiaaiogcaaDoorTotals.lean).
  GIVEN WITH THE SEED: the statements are not yours to turn. If you find one false, say at which input.
  Laid BY PROGRAM, IN A SANDBOX (cutbox-rows.mjs): the forced cells as the released guide's own fill.sh prints them over the translation 0df44869b2a4acb7… (all of the seat's roots in one cut). By AI agents, Wed Nov 11 2026. No macro, syntax, notation, axiom, sorry.
-/
import Derived.Test.YtgohohiaaiogcaaDoorChecked
import GoSem.Claim
import GoSem.ClaimJoined
import GoSem.ClaimMapViews
import Derived.JoinedTies
import Derived.KernelRfl
namespace Go.Proofs.YtgohohiaaiogcaaDoor
/- THE CELL 'sum', in the pinned program and in every row, IS THE sha256 OF THE DUMP (.gsa) THAT YtgohohiaaiogcaaDoorProg.lean LOADS. Nothing in Lean hashes anything: it is a label: what it is worth is what the hold of that sum in a sandbox is worth. -/
noncomputable def Tryd.pinned : Pinned := { name := "ytgohohiaaiogcaadoor", sum := "0df44869b2a4acb774b19c778b898bb4f578bc416365363801e6cad28ad2292d", checked := Tryd.checked }
namespace Rows
def none {H : Type} : Left H := { results := [], args := [] }

/- WHAT THE LISTED PACKAGE-LEVEL VARIABLES READ AS WHEN THE CALL BEGINS. Each datum BY PROGRAM (the guide's laid-datum.mjs) off the statement by which the dump's own 'gosem.cut.vars' lays the variable. In a bare row this is a premise. The card (YtgohohiaaiogcaaDoorCards.lean) ties it to the program's text. -/
def laid_math_bits_deBruijn32tab {H : Type} : DataW H := .agg [.lit (.int .u8 0), .lit (.int .u8 1), .lit (.int .u8 28), .lit (.int .u8 2), .lit (.int .u8 29), .lit (.int .u8 14), .lit (.int .u8 24), .lit (.int .u8 3), .lit (.int .u8 30), .lit (.int .u8 22), .lit (.int .u8 20), .lit (.int .u8 15), .lit (.int .u8 25), .lit (.int .u8 17), .lit (.int .u8 4), .lit (.int .u8 8), .lit (.int .u8 31), .lit (.int .u8 27), .lit (.int .u8 13), .lit (.int .u8 23), .lit (.int .u8 21), .lit (.int .u8 19), .lit (.int .u8 16), .lit (.int .u8 7), .lit (.int .u8 26), .lit (.int .u8 12), .lit (.int .u8 18), .lit (.int .u8 6), .lit (.int .u8 11), .lit (.int .u8 5), .lit (.int .u8 10), .lit (.int .u8 9)]
def laid_math_bits_deBruijn64tab {H : Type} : DataW H := .agg [.lit (.int .u8 0), .lit (.int .u8 1), .lit (.int .u8 56), .lit (.int .u8 2), .lit (.int .u8 57), .lit (.int .u8 49), .lit (.int .u8 28), .lit (.int .u8 3), .lit (.int .u8 61), .lit (.int .u8 58), .lit (.int .u8 42), .lit (.int .u8 50), .lit (.int .u8 38), .lit (.int .u8 29), .lit (.int .u8 17), .lit (.int .u8 4), .lit (.int .u8 62), .lit (.int .u8 47), .lit (.int .u8 59), .lit (.int .u8 36), .lit (.int .u8 45), .lit (.int .u8 43), .lit (.int .u8 51), .lit (.int .u8 22), .lit (.int .u8 53), .lit (.int .u8 39), .lit (.int .u8 33), .lit (.int .u8 30), .lit (.int .u8 24), .lit (.int .u8 18), .lit (.int .u8 12), .lit (.int .u8 5), .lit (.int .u8 63), .lit (.int .u8 55), .lit (.int .u8 48), .lit (.int .u8 27), .lit (.int .u8 60), .lit (.int .u8 41), .lit (.int .u8 37), .lit (.int .u8 16), .lit (.int .u8 46), .lit (.int .u8 35), .lit (.int .u8 44), .lit (.int .u8 21), .lit (.int .u8 52), .lit (.int .u8 32), .lit (.int .u8 23), .lit (.int .u8 11), .lit (.int .u8 54), .lit (.int .u8 26), .lit (.int .u8 40), .lit (.int .u8 15), .lit (.int .u8 34), .lit (.int .u8 20), .lit (.int .u8 31), .lit (.int .u8 10), .lit (.int .u8 25), .lit (.int .u8 14), .lit (.int .u8 19), .lit (.int .u8 9), .lit (.int .u8 13), .lit (.int .u8 8), .lit (.int .u8 7), .lit (.int .u8 6)]

/-- 'headwordlaw02.SeeChoices': WHATEVER THE INPUT: true; the input reads as it did. -/
def seeChoicesSpec : ChangeSpec := { name := "seeChoices", fn := fun _ => fun
  | [d1, d2] => { results := [.lit (.bool true)], args := [d1, d2] }
  | _ => none }
def seeChoicesRow : OpenClaim := { program := "ytgohohiaaiogcaadoor", sum := "0df44869b2a4acb774b19c778b898bb4f578bc416365363801e6cad28ad2292d", func := "headword/headwordlaw02.SeeChoices", spec := "seeChoices", unfollowed := true, recurses := true, named := ["math/bits.deBruijn32tab", "math/bits.deBruijn64tab"], apart := false, laid := [("math/bits.deBruijn32tab", laid_math_bits_deBruijn32tab), ("math/bits.deBruijn64tab", laid_math_bits_deBruijn64tab)] }
def SeeChoicesSaid : Prop := seeChoicesRow.holds Tryd.pinned (OpenSpec.ofChange seeChoicesSpec)

/-- ITS FALSE NEIGHBOUR: 'it returns false'. Refute it at one input. -/
def seeChoicesWrong : ChangeSpec := { name := "seeChoices", fn := fun _ => fun
  | [d1, d2] => { results := [.lit (.bool false)], args := [d1, d2] }
  | _ => none }
def SeeChoicesWrongFalsely : Prop := seeChoicesRow.holds Tryd.pinned (OpenSpec.ofChange seeChoicesWrong)

/-- 'headwordlaw02.SeeRings': WHATEVER THE INPUT: true; the input reads as it did. -/
def seeRingsSpec : ChangeSpec := { name := "seeRings", fn := fun _ => fun
  | [d1, d2] => { results := [.lit (.bool true)], args := [d1, d2] }
  | _ => none }
def seeRingsRow : OpenClaim := { program := "ytgohohiaaiogcaadoor", sum := "0df44869b2a4acb774b19c778b898bb4f578bc416365363801e6cad28ad2292d", func := "headword/headwordlaw02.SeeRings", spec := "seeRings", unfollowed := true, recurses := true, named := ["math/bits.deBruijn32tab", "math/bits.deBruijn64tab"], apart := false, laid := [("math/bits.deBruijn32tab", laid_math_bits_deBruijn32tab), ("math/bits.deBruijn64tab", laid_math_bits_deBruijn64tab)] }
def SeeRingsSaid : Prop := seeRingsRow.holds Tryd.pinned (OpenSpec.ofChange seeRingsSpec)

/-- ITS FALSE NEIGHBOUR: 'it returns false'. Refute it at one input. -/
def seeRingsWrong : ChangeSpec := { name := "seeRings", fn := fun _ => fun
  | [d1, d2] => { results := [.lit (.bool false)], args := [d1, d2] }
  | _ => none }
def SeeRingsWrongFalsely : Prop := seeRingsRow.holds Tryd.pinned (OpenSpec.ofChange seeRingsWrong)

/-- 'headwordlaw02.SeeWays': WHATEVER THE INPUT: true; the input reads as it did. -/
def seeWaysSpec : ChangeSpec := { name := "seeWays", fn := fun _ => fun
  | [d1, d2, d3] => { results := [.lit (.bool true)], args := [d1, d2, d3] }
  | _ => none }
def seeWaysRow : OpenClaim := { program := "ytgohohiaaiogcaadoor", sum := "0df44869b2a4acb774b19c778b898bb4f578bc416365363801e6cad28ad2292d", func := "headword/headwordlaw02.SeeWays", spec := "seeWays", unfollowed := true, recurses := true, named := ["math/bits.deBruijn32tab", "math/bits.deBruijn64tab"], apart := false, laid := [("math/bits.deBruijn32tab", laid_math_bits_deBruijn32tab), ("math/bits.deBruijn64tab", laid_math_bits_deBruijn64tab)] }
def SeeWaysSaid : Prop := seeWaysRow.holds Tryd.pinned (OpenSpec.ofChange seeWaysSpec)

/-- ITS FALSE NEIGHBOUR: 'it returns false'. Refute it at one input. -/
def seeWaysWrong : ChangeSpec := { name := "seeWays", fn := fun _ => fun
  | [d1, d2, d3] => { results := [.lit (.bool false)], args := [d1, d2, d3] }
  | _ => none }
def SeeWaysWrongFalsely : Prop := seeWaysRow.holds Tryd.pinned (OpenSpec.ofChange seeWaysWrong)

/-- 'headwordlaw02.SeeCircles': WHATEVER THE INPUT: true; the input reads as it did. -/
def seeCirclesSpec : ChangeSpec := { name := "seeCircles", fn := fun _ => fun
  | [d1, d2] => { results := [.lit (.bool true)], args := [d1, d2] }
  | _ => none }
def seeCirclesRow : OpenClaim := { program := "ytgohohiaaiogcaadoor", sum := "0df44869b2a4acb774b19c778b898bb4f578bc416365363801e6cad28ad2292d", func := "headword/headwordlaw02.SeeCircles", spec := "seeCircles", unfollowed := true, recurses := true, named := ["math/bits.deBruijn32tab", "math/bits.deBruijn64tab"], apart := false, laid := [("math/bits.deBruijn32tab", laid_math_bits_deBruijn32tab), ("math/bits.deBruijn64tab", laid_math_bits_deBruijn64tab)] }
def SeeCirclesSaid : Prop := seeCirclesRow.holds Tryd.pinned (OpenSpec.ofChange seeCirclesSpec)

/-- ITS FALSE NEIGHBOUR: 'it returns false'. Refute it at one input. -/
def seeCirclesWrong : ChangeSpec := { name := "seeCircles", fn := fun _ => fun
  | [d1, d2] => { results := [.lit (.bool false)], args := [d1, d2] }
  | _ => none }
def SeeCirclesWrongFalsely : Prop := seeCirclesRow.holds Tryd.pinned (OpenSpec.ofChange seeCirclesWrong)

/-- 'headwordlaw02.SeeRichardson': WHATEVER THE INPUT: true; the input reads as it did. -/
def seeRichardsonSpec : ChangeSpec := { name := "seeRichardson", fn := fun _ => fun
  | [d] => { results := [.lit (.bool true)], args := [d] }
  | _ => none }
def seeRichardsonRow : OpenClaim := { program := "ytgohohiaaiogcaadoor", sum := "0df44869b2a4acb774b19c778b898bb4f578bc416365363801e6cad28ad2292d", func := "headword/headwordlaw02.SeeRichardson", spec := "seeRichardson", unfollowed := true, recurses := true, named := ["math/bits.deBruijn32tab", "math/bits.deBruijn64tab"], apart := false, laid := [("math/bits.deBruijn32tab", laid_math_bits_deBruijn32tab), ("math/bits.deBruijn64tab", laid_math_bits_deBruijn64tab)] }
def SeeRichardsonSaid : Prop := seeRichardsonRow.holds Tryd.pinned (OpenSpec.ofChange seeRichardsonSpec)

/-- ITS FALSE NEIGHBOUR: 'it returns false'. Refute it at one input. -/
def seeRichardsonWrong : ChangeSpec := { name := "seeRichardson", fn := fun _ => fun
  | [d] => { results := [.lit (.bool false)], args := [d] }
  | _ => none }
def SeeRichardsonWrongFalsely : Prop := seeRichardsonRow.holds Tryd.pinned (OpenSpec.ofChange seeRichardsonWrong)

/-- 'headwordlaw02.SeeOrdered': WHATEVER THE INPUT: true; the input reads as it did. -/
def seeOrderedSpec : ChangeSpec := { name := "seeOrdered", fn := fun _ => fun
  | [d1, d2] => { results := [.lit (.bool true)], args := [d1, d2] }
  | _ => none }
def seeOrderedRow : OpenClaim := { program := "ytgohohiaaiogcaadoor", sum := "0df44869b2a4acb774b19c778b898bb4f578bc416365363801e6cad28ad2292d", func := "headword/headwordlaw02.SeeOrdered", spec := "seeOrdered", unfollowed := true, recurses := true, named := ["math/bits.deBruijn32tab", "math/bits.deBruijn64tab"], apart := false, laid := [("math/bits.deBruijn32tab", laid_math_bits_deBruijn32tab), ("math/bits.deBruijn64tab", laid_math_bits_deBruijn64tab)] }
def SeeOrderedSaid : Prop := seeOrderedRow.holds Tryd.pinned (OpenSpec.ofChange seeOrderedSpec)

/-- ITS FALSE NEIGHBOUR: 'it returns false'. Refute it at one input. -/
def seeOrderedWrong : ChangeSpec := { name := "seeOrdered", fn := fun _ => fun
  | [d1, d2] => { results := [.lit (.bool false)], args := [d1, d2] }
  | _ => none }
def SeeOrderedWrongFalsely : Prop := seeOrderedRow.holds Tryd.pinned (OpenSpec.ofChange seeOrderedWrong)

/-- 'headwordlaw02.SeeTurned': WHATEVER THE INPUT: true; the input reads as it did. -/
def seeTurnedSpec : ChangeSpec := { name := "seeTurned", fn := fun _ => fun
  | [d1, d2] => { results := [.lit (.bool true)], args := [d1, d2] }
  | _ => none }
def seeTurnedRow : OpenClaim := { program := "ytgohohiaaiogcaadoor", sum := "0df44869b2a4acb774b19c778b898bb4f578bc416365363801e6cad28ad2292d", func := "headword/headwordlaw02.SeeTurned", spec := "seeTurned", unfollowed := true, recurses := true, named := ["math/bits.deBruijn32tab", "math/bits.deBruijn64tab"], apart := false, laid := [("math/bits.deBruijn32tab", laid_math_bits_deBruijn32tab), ("math/bits.deBruijn64tab", laid_math_bits_deBruijn64tab)] }
def SeeTurnedSaid : Prop := seeTurnedRow.holds Tryd.pinned (OpenSpec.ofChange seeTurnedSpec)

/-- ITS FALSE NEIGHBOUR: 'it returns false'. Refute it at one input. -/
def seeTurnedWrong : ChangeSpec := { name := "seeTurned", fn := fun _ => fun
  | [d1, d2] => { results := [.lit (.bool false)], args := [d1, d2] }
  | _ => none }
def SeeTurnedWrongFalsely : Prop := seeTurnedRow.holds Tryd.pinned (OpenSpec.ofChange seeTurnedWrong)

/-- 'headwordlaw02.SeeMutual': WHATEVER THE INPUT: true; the input reads as it did. -/
def seeMutualSpec : ChangeSpec := { name := "seeMutual", fn := fun _ => fun
  | [d] => { results := [.lit (.bool true)], args := [d] }
  | _ => none }
def seeMutualRow : OpenClaim := { program := "ytgohohiaaiogcaadoor", sum := "0df44869b2a4acb774b19c778b898bb4f578bc416365363801e6cad28ad2292d", func := "headword/headwordlaw02.SeeMutual", spec := "seeMutual", unfollowed := true, recurses := true, named := ["math/bits.deBruijn32tab", "math/bits.deBruijn64tab"], apart := false, laid := [("math/bits.deBruijn32tab", laid_math_bits_deBruijn32tab), ("math/bits.deBruijn64tab", laid_math_bits_deBruijn64tab)] }
def SeeMutualSaid : Prop := seeMutualRow.holds Tryd.pinned (OpenSpec.ofChange seeMutualSpec)

/-- ITS FALSE NEIGHBOUR: 'it returns false'. Refute it at one input. -/
def seeMutualWrong : ChangeSpec := { name := "seeMutual", fn := fun _ => fun
  | [d] => { results := [.lit (.bool false)], args := [d] }
  | _ => none }
def SeeMutualWrongFalsely : Prop := seeMutualRow.holds Tryd.pinned (OpenSpec.ofChange seeMutualWrong)

/-- 'headwordlaw02.SeeCounted': WHATEVER THE INPUT: true; the input reads as it did. -/
def seeCountedSpec : ChangeSpec := { name := "seeCounted", fn := fun _ => fun
  | [d1, d2] => { results := [.lit (.bool true)], args := [d1, d2] }
  | _ => none }
def seeCountedRow : OpenClaim := { program := "ytgohohiaaiogcaadoor", sum := "0df44869b2a4acb774b19c778b898bb4f578bc416365363801e6cad28ad2292d", func := "headword/headwordlaw02.SeeCounted", spec := "seeCounted", unfollowed := true, recurses := true, named := ["math/bits.deBruijn32tab", "math/bits.deBruijn64tab"], apart := false, laid := [("math/bits.deBruijn32tab", laid_math_bits_deBruijn32tab), ("math/bits.deBruijn64tab", laid_math_bits_deBruijn64tab)] }
def SeeCountedSaid : Prop := seeCountedRow.holds Tryd.pinned (OpenSpec.ofChange seeCountedSpec)

/-- ITS FALSE NEIGHBOUR: 'it returns false'. Refute it at one input. -/
def seeCountedWrong : ChangeSpec := { name := "seeCounted", fn := fun _ => fun
  | [d1, d2] => { results := [.lit (.bool false)], args := [d1, d2] }
  | _ => none }
def SeeCountedWrongFalsely : Prop := seeCountedRow.holds Tryd.pinned (OpenSpec.ofChange seeCountedWrong)

/-- 'headwordlaw02.SeeNear': WHATEVER THE INPUT: true; the input reads as it did. -/
def seeNearSpec : ChangeSpec := { name := "seeNear", fn := fun _ => fun
  | [d1, d2, d3] => { results := [.lit (.bool true)], args := [d1, d2, d3] }
  | _ => none }
def seeNearRow : OpenClaim := { program := "ytgohohiaaiogcaadoor", sum := "0df44869b2a4acb774b19c778b898bb4f578bc416365363801e6cad28ad2292d", func := "headword/headwordlaw02.SeeNear", spec := "seeNear", unfollowed := true, recurses := true, named := ["math/bits.deBruijn32tab", "math/bits.deBruijn64tab"], apart := false, laid := [("math/bits.deBruijn32tab", laid_math_bits_deBruijn32tab), ("math/bits.deBruijn64tab", laid_math_bits_deBruijn64tab)] }
def SeeNearSaid : Prop := seeNearRow.holds Tryd.pinned (OpenSpec.ofChange seeNearSpec)

/-- ITS FALSE NEIGHBOUR: 'it returns false'. Refute it at one input. -/
def seeNearWrong : ChangeSpec := { name := "seeNear", fn := fun _ => fun
  | [d1, d2, d3] => { results := [.lit (.bool false)], args := [d1, d2, d3] }
  | _ => none }
def SeeNearWrongFalsely : Prop := seeNearRow.holds Tryd.pinned (OpenSpec.ofChange seeNearWrong)

/-- 'headwordlaw02.SeeGrown': WHATEVER THE INPUT: true; the input reads as it did. -/
def seeGrownSpec : ChangeSpec := { name := "seeGrown", fn := fun _ => fun
  | [d1, d2] => { results := [.lit (.bool true)], args := [d1, d2] }
  | _ => none }
def seeGrownRow : OpenClaim := { program := "ytgohohiaaiogcaadoor", sum := "0df44869b2a4acb774b19c778b898bb4f578bc416365363801e6cad28ad2292d", func := "headword/headwordlaw02.SeeGrown", spec := "seeGrown", unfollowed := true, recurses := true, named := ["math/bits.deBruijn32tab", "math/bits.deBruijn64tab"], apart := false, laid := [("math/bits.deBruijn32tab", laid_math_bits_deBruijn32tab), ("math/bits.deBruijn64tab", laid_math_bits_deBruijn64tab)] }
def SeeGrownSaid : Prop := seeGrownRow.holds Tryd.pinned (OpenSpec.ofChange seeGrownSpec)

/-- ITS FALSE NEIGHBOUR: 'it returns false'. Refute it at one input. -/
def seeGrownWrong : ChangeSpec := { name := "seeGrown", fn := fun _ => fun
  | [d1, d2] => { results := [.lit (.bool false)], args := [d1, d2] }
  | _ => none }
def SeeGrownWrongFalsely : Prop := seeGrownRow.holds Tryd.pinned (OpenSpec.ofChange seeGrownWrong)

/-- 'headwordlaw02.SeeShown': WHATEVER THE INPUT: true; the input reads as it did. -/
def seeShownSpec : ChangeSpec := { name := "seeShown", fn := fun _ => fun
  | [d1, d2, d3] => { results := [.lit (.bool true)], args := [d1, d2, d3] }
  | _ => none }
def seeShownRow : OpenClaim := { program := "ytgohohiaaiogcaadoor", sum := "0df44869b2a4acb774b19c778b898bb4f578bc416365363801e6cad28ad2292d", func := "headword/headwordlaw02.SeeShown", spec := "seeShown", unfollowed := true, recurses := true, named := ["math/bits.deBruijn32tab", "math/bits.deBruijn64tab"], apart := false, laid := [("math/bits.deBruijn32tab", laid_math_bits_deBruijn32tab), ("math/bits.deBruijn64tab", laid_math_bits_deBruijn64tab)] }
def SeeShownSaid : Prop := seeShownRow.holds Tryd.pinned (OpenSpec.ofChange seeShownSpec)

/-- ITS FALSE NEIGHBOUR: 'it returns false'. Refute it at one input. -/
def seeShownWrong : ChangeSpec := { name := "seeShown", fn := fun _ => fun
  | [d1, d2, d3] => { results := [.lit (.bool false)], args := [d1, d2, d3] }
  | _ => none }
def SeeShownWrongFalsely : Prop := seeShownRow.holds Tryd.pinned (OpenSpec.ofChange seeShownWrong)

/-- 'headwordlaw02.SeeKnown': WHATEVER THE INPUT: true; the input reads as it did. -/
def seeKnownSpec : ChangeSpec := { name := "seeKnown", fn := fun _ => fun
  | [] => { results := [.lit (.bool true)], args := [] }
  | _ => none }
def seeKnownRow : OpenClaim := { program := "ytgohohiaaiogcaadoor", sum := "0df44869b2a4acb774b19c778b898bb4f578bc416365363801e6cad28ad2292d", func := "headword/headwordlaw02.SeeKnown", spec := "seeKnown", unfollowed := true, recurses := true, named := ["math/bits.deBruijn32tab", "math/bits.deBruijn64tab"], apart := false, laid := [("math/bits.deBruijn32tab", laid_math_bits_deBruijn32tab), ("math/bits.deBruijn64tab", laid_math_bits_deBruijn64tab)] }
def SeeKnownSaid : Prop := seeKnownRow.holds Tryd.pinned (OpenSpec.ofChange seeKnownSpec)

/-- ITS FALSE NEIGHBOUR: 'it returns false'. Refute it at one input. -/
def seeKnownWrong : ChangeSpec := { name := "seeKnown", fn := fun _ => fun
  | [] => { results := [.lit (.bool false)], args := [] }
  | _ => none }
def SeeKnownWrongFalsely : Prop := seeKnownRow.holds Tryd.pinned (OpenSpec.ofChange seeKnownWrong)

/-- 'headwordlaw02.SeeNamed': WHATEVER THE INPUT: true; the input reads as it did. -/
def seeNamedSpec : ChangeSpec := { name := "seeNamed", fn := fun _ => fun
  | [d1, d2] => { results := [.lit (.bool true)], args := [d1, d2] }
  | _ => none }
def seeNamedRow : OpenClaim := { program := "ytgohohiaaiogcaadoor", sum := "0df44869b2a4acb774b19c778b898bb4f578bc416365363801e6cad28ad2292d", func := "headword/headwordlaw02.SeeNamed", spec := "seeNamed", unfollowed := true, recurses := true, named := ["math/bits.deBruijn32tab", "math/bits.deBruijn64tab"], apart := false, laid := [("math/bits.deBruijn32tab", laid_math_bits_deBruijn32tab), ("math/bits.deBruijn64tab", laid_math_bits_deBruijn64tab)] }
def SeeNamedSaid : Prop := seeNamedRow.holds Tryd.pinned (OpenSpec.ofChange seeNamedSpec)

/-- ITS FALSE NEIGHBOUR: 'it returns false'. Refute it at one input. -/
def seeNamedWrong : ChangeSpec := { name := "seeNamed", fn := fun _ => fun
  | [d1, d2] => { results := [.lit (.bool false)], args := [d1, d2] }
  | _ => none }
def SeeNamedWrongFalsely : Prop := seeNamedRow.holds Tryd.pinned (OpenSpec.ofChange seeNamedWrong)

/- THE SECOND FORM. 'bulk': how many values and letters a reading holds, each counted each time it is reached (what is shared counts as often as it is met; a slice's spare places count too). A statement '..UptoSaid' is the law's where the arguments, and the package variables that the reading takes, are together of bulk at most 1048576: NARROWER than '..Said'. Prove '..Said' where nothing that the law and all that it calls make is longer than what came in: it says more and counts as full. Else prove '..UptoSaid'. A law counts once. -/
mutual
def uptoBulk {H : Type} : DataW H → Nat
  | .lit (.string bytes) => bytes.length + 1
  | .lit _ => 1
  | .nil => 1
  | .ptr d => uptoBulk d + 1
  | .slice elems spare => uptoBulkAll elems + uptoBulkAll spare + 1
  | .agg parts => uptoBulkAll parts + 1
  | .iface _ d => uptoBulk d + 1
  | .map entries => uptoBulkEntries entries + 1
  | .held _ => 1
def uptoBulkAll {H : Type} : List (DataW H) → Nat
  | [] => 0
  | d :: r => uptoBulk d + uptoBulkAll r
def uptoBulkEntries {H : Type} : List (Lit × DataW H) → Nat
  | [] => 0
  | x :: r => uptoBulkEntry x + uptoBulkEntries r
def uptoBulkEntry {H : Type} : Lit × DataW H → Nat
  | (.string bytes, d) => bytes.length + uptoBulk d + 1
  | (_, d) => uptoBulk d + 1
 end
def uptoSmall : (H : Type) → List (DataW H) → Bool := fun _ ds => decide (uptoBulkAll ds ≤ 1048576)
def OpenSpec.upto (s : _root_.Go.ChangeSpec) : _root_.Go.OpenSpec := { _root_.Go.OpenSpec.ofChange s with cond := some uptoSmall }

/-- 'headwordlaw02.SeeChoices', WHERE WHAT IT READS IS OF BULK AT MOST 1048576: true; the input reads as it did. -/
def seeChoicesUptoRow : OpenClaim := { program := "ytgohohiaaiogcaadoor", sum := "0df44869b2a4acb774b19c778b898bb4f578bc416365363801e6cad28ad2292d", func := "headword/headwordlaw02.SeeChoices", spec := "seeChoices", unfollowed := true, recurses := true, named := ["math/bits.deBruijn32tab", "math/bits.deBruijn64tab"], apart := false, laid := [("math/bits.deBruijn32tab", laid_math_bits_deBruijn32tab), ("math/bits.deBruijn64tab", laid_math_bits_deBruijn64tab)], narrowed := true }
def SeeChoicesUptoSaid : Prop := seeChoicesUptoRow.holds Tryd.pinned (OpenSpec.upto seeChoicesSpec)

/-- 'headwordlaw02.SeeRings', WHERE WHAT IT READS IS OF BULK AT MOST 1048576: true; the input reads as it did. -/
def seeRingsUptoRow : OpenClaim := { program := "ytgohohiaaiogcaadoor", sum := "0df44869b2a4acb774b19c778b898bb4f578bc416365363801e6cad28ad2292d", func := "headword/headwordlaw02.SeeRings", spec := "seeRings", unfollowed := true, recurses := true, named := ["math/bits.deBruijn32tab", "math/bits.deBruijn64tab"], apart := false, laid := [("math/bits.deBruijn32tab", laid_math_bits_deBruijn32tab), ("math/bits.deBruijn64tab", laid_math_bits_deBruijn64tab)], narrowed := true }
def SeeRingsUptoSaid : Prop := seeRingsUptoRow.holds Tryd.pinned (OpenSpec.upto seeRingsSpec)

/-- 'headwordlaw02.SeeWays', WHERE WHAT IT READS IS OF BULK AT MOST 1048576: true; the input reads as it did. -/
def seeWaysUptoRow : OpenClaim := { program := "ytgohohiaaiogcaadoor", sum := "0df44869b2a4acb774b19c778b898bb4f578bc416365363801e6cad28ad2292d", func := "headword/headwordlaw02.SeeWays", spec := "seeWays", unfollowed := true, recurses := true, named := ["math/bits.deBruijn32tab", "math/bits.deBruijn64tab"], apart := false, laid := [("math/bits.deBruijn32tab", laid_math_bits_deBruijn32tab), ("math/bits.deBruijn64tab", laid_math_bits_deBruijn64tab)], narrowed := true }
def SeeWaysUptoSaid : Prop := seeWaysUptoRow.holds Tryd.pinned (OpenSpec.upto seeWaysSpec)

/-- 'headwordlaw02.SeeCircles', WHERE WHAT IT READS IS OF BULK AT MOST 1048576: true; the input reads as it did. -/
def seeCirclesUptoRow : OpenClaim := { program := "ytgohohiaaiogcaadoor", sum := "0df44869b2a4acb774b19c778b898bb4f578bc416365363801e6cad28ad2292d", func := "headword/headwordlaw02.SeeCircles", spec := "seeCircles", unfollowed := true, recurses := true, named := ["math/bits.deBruijn32tab", "math/bits.deBruijn64tab"], apart := false, laid := [("math/bits.deBruijn32tab", laid_math_bits_deBruijn32tab), ("math/bits.deBruijn64tab", laid_math_bits_deBruijn64tab)], narrowed := true }
def SeeCirclesUptoSaid : Prop := seeCirclesUptoRow.holds Tryd.pinned (OpenSpec.upto seeCirclesSpec)

/-- 'headwordlaw02.SeeRichardson', WHERE WHAT IT READS IS OF BULK AT MOST 1048576: true; the input reads as it did. -/
def seeRichardsonUptoRow : OpenClaim := { program := "ytgohohiaaiogcaadoor", sum := "0df44869b2a4acb774b19c778b898bb4f578bc416365363801e6cad28ad2292d", func := "headword/headwordlaw02.SeeRichardson", spec := "seeRichardson", unfollowed := true, recurses := true, named := ["math/bits.deBruijn32tab", "math/bits.deBruijn64tab"], apart := false, laid := [("math/bits.deBruijn32tab", laid_math_bits_deBruijn32tab), ("math/bits.deBruijn64tab", laid_math_bits_deBruijn64tab)], narrowed := true }
def SeeRichardsonUptoSaid : Prop := seeRichardsonUptoRow.holds Tryd.pinned (OpenSpec.upto seeRichardsonSpec)

/-- 'headwordlaw02.SeeOrdered', WHERE WHAT IT READS IS OF BULK AT MOST 1048576: true; the input reads as it did. -/
def seeOrderedUptoRow : OpenClaim := { program := "ytgohohiaaiogcaadoor", sum := "0df44869b2a4acb774b19c778b898bb4f578bc416365363801e6cad28ad2292d", func := "headword/headwordlaw02.SeeOrdered", spec := "seeOrdered", unfollowed := true, recurses := true, named := ["math/bits.deBruijn32tab", "math/bits.deBruijn64tab"], apart := false, laid := [("math/bits.deBruijn32tab", laid_math_bits_deBruijn32tab), ("math/bits.deBruijn64tab", laid_math_bits_deBruijn64tab)], narrowed := true }
def SeeOrderedUptoSaid : Prop := seeOrderedUptoRow.holds Tryd.pinned (OpenSpec.upto seeOrderedSpec)

/-- 'headwordlaw02.SeeTurned', WHERE WHAT IT READS IS OF BULK AT MOST 1048576: true; the input reads as it did. -/
def seeTurnedUptoRow : OpenClaim := { program := "ytgohohiaaiogcaadoor", sum := "0df44869b2a4acb774b19c778b898bb4f578bc416365363801e6cad28ad2292d", func := "headword/headwordlaw02.SeeTurned", spec := "seeTurned", unfollowed := true, recurses := true, named := ["math/bits.deBruijn32tab", "math/bits.deBruijn64tab"], apart := false, laid := [("math/bits.deBruijn32tab", laid_math_bits_deBruijn32tab), ("math/bits.deBruijn64tab", laid_math_bits_deBruijn64tab)], narrowed := true }
def SeeTurnedUptoSaid : Prop := seeTurnedUptoRow.holds Tryd.pinned (OpenSpec.upto seeTurnedSpec)

/-- 'headwordlaw02.SeeMutual', WHERE WHAT IT READS IS OF BULK AT MOST 1048576: true; the input reads as it did. -/
def seeMutualUptoRow : OpenClaim := { program := "ytgohohiaaiogcaadoor", sum := "0df44869b2a4acb774b19c778b898bb4f578bc416365363801e6cad28ad2292d", func := "headword/headwordlaw02.SeeMutual", spec := "seeMutual", unfollowed := true, recurses := true, named := ["math/bits.deBruijn32tab", "math/bits.deBruijn64tab"], apart := false, laid := [("math/bits.deBruijn32tab", laid_math_bits_deBruijn32tab), ("math/bits.deBruijn64tab", laid_math_bits_deBruijn64tab)], narrowed := true }
def SeeMutualUptoSaid : Prop := seeMutualUptoRow.holds Tryd.pinned (OpenSpec.upto seeMutualSpec)

/-- 'headwordlaw02.SeeCounted', WHERE WHAT IT READS IS OF BULK AT MOST 1048576: true; the input reads as it did. -/
def seeCountedUptoRow : OpenClaim := { program := "ytgohohiaaiogcaadoor", sum := "0df44869b2a4acb774b19c778b898bb4f578bc416365363801e6cad28ad2292d", func := "headword/headwordlaw02.SeeCounted", spec := "seeCounted", unfollowed := true, recurses := true, named := ["math/bits.deBruijn32tab", "math/bits.deBruijn64tab"], apart := false, laid := [("math/bits.deBruijn32tab", laid_math_bits_deBruijn32tab), ("math/bits.deBruijn64tab", laid_math_bits_deBruijn64tab)], narrowed := true }
def SeeCountedUptoSaid : Prop := seeCountedUptoRow.holds Tryd.pinned (OpenSpec.upto seeCountedSpec)

/-- 'headwordlaw02.SeeNear', WHERE WHAT IT READS IS OF BULK AT MOST 1048576: true; the input reads as it did. -/
def seeNearUptoRow : OpenClaim := { program := "ytgohohiaaiogcaadoor", sum := "0df44869b2a4acb774b19c778b898bb4f578bc416365363801e6cad28ad2292d", func := "headword/headwordlaw02.SeeNear", spec := "seeNear", unfollowed := true, recurses := true, named := ["math/bits.deBruijn32tab", "math/bits.deBruijn64tab"], apart := false, laid := [("math/bits.deBruijn32tab", laid_math_bits_deBruijn32tab), ("math/bits.deBruijn64tab", laid_math_bits_deBruijn64tab)], narrowed := true }
def SeeNearUptoSaid : Prop := seeNearUptoRow.holds Tryd.pinned (OpenSpec.upto seeNearSpec)

/-- 'headwordlaw02.SeeGrown', WHERE WHAT IT READS IS OF BULK AT MOST 1048576: true; the input reads as it did. -/
def seeGrownUptoRow : OpenClaim := { program := "ytgohohiaaiogcaadoor", sum := "0df44869b2a4acb774b19c778b898bb4f578bc416365363801e6cad28ad2292d", func := "headword/headwordlaw02.SeeGrown", spec := "seeGrown", unfollowed := true, recurses := true, named := ["math/bits.deBruijn32tab", "math/bits.deBruijn64tab"], apart := false, laid := [("math/bits.deBruijn32tab", laid_math_bits_deBruijn32tab), ("math/bits.deBruijn64tab", laid_math_bits_deBruijn64tab)], narrowed := true }
def SeeGrownUptoSaid : Prop := seeGrownUptoRow.holds Tryd.pinned (OpenSpec.upto seeGrownSpec)

/-- 'headwordlaw02.SeeShown', WHERE WHAT IT READS IS OF BULK AT MOST 1048576: true; the input reads as it did. -/
def seeShownUptoRow : OpenClaim := { program := "ytgohohiaaiogcaadoor", sum := "0df44869b2a4acb774b19c778b898bb4f578bc416365363801e6cad28ad2292d", func := "headword/headwordlaw02.SeeShown", spec := "seeShown", unfollowed := true, recurses := true, named := ["math/bits.deBruijn32tab", "math/bits.deBruijn64tab"], apart := false, laid := [("math/bits.deBruijn32tab", laid_math_bits_deBruijn32tab), ("math/bits.deBruijn64tab", laid_math_bits_deBruijn64tab)], narrowed := true }
def SeeShownUptoSaid : Prop := seeShownUptoRow.holds Tryd.pinned (OpenSpec.upto seeShownSpec)

/-- 'headwordlaw02.SeeKnown', WHERE WHAT IT READS IS OF BULK AT MOST 1048576: true; the input reads as it did. -/
def seeKnownUptoRow : OpenClaim := { program := "ytgohohiaaiogcaadoor", sum := "0df44869b2a4acb774b19c778b898bb4f578bc416365363801e6cad28ad2292d", func := "headword/headwordlaw02.SeeKnown", spec := "seeKnown", unfollowed := true, recurses := true, named := ["math/bits.deBruijn32tab", "math/bits.deBruijn64tab"], apart := false, laid := [("math/bits.deBruijn32tab", laid_math_bits_deBruijn32tab), ("math/bits.deBruijn64tab", laid_math_bits_deBruijn64tab)], narrowed := true }
def SeeKnownUptoSaid : Prop := seeKnownUptoRow.holds Tryd.pinned (OpenSpec.upto seeKnownSpec)

/-- 'headwordlaw02.SeeNamed', WHERE WHAT IT READS IS OF BULK AT MOST 1048576: true; the input reads as it did. -/
def seeNamedUptoRow : OpenClaim := { program := "ytgohohiaaiogcaadoor", sum := "0df44869b2a4acb774b19c778b898bb4f578bc416365363801e6cad28ad2292d", func := "headword/headwordlaw02.SeeNamed", spec := "seeNamed", unfollowed := true, recurses := true, named := ["math/bits.deBruijn32tab", "math/bits.deBruijn64tab"], apart := false, laid := [("math/bits.deBruijn32tab", laid_math_bits_deBruijn32tab), ("math/bits.deBruijn64tab", laid_math_bits_deBruijn64tab)], narrowed := true }
def SeeNamedUptoSaid : Prop := seeNamedUptoRow.holds Tryd.pinned (OpenSpec.upto seeNamedSpec)

end Rows
end Go.Proofs.YtgohohiaaiogcaaDoor
