/-
  NARROWER THAN 'FOR EVERY INPUT', by the rows' own cells (each row's printed sentence says how): FactWrongs: laid · FactHalves: laid · FactShares: laid · FactValued: laid · FactShared: laid · FactShown: laid · FactKnown: laid · FactGiven: laid · FactMore: laid · FactNemhauser: laid · FactBounds: laid · FactNamed: laid · FactRinged: laid.
  DERIVED. THE GIVEN ROWS OF THIS SEAT. 13 by the template 'for every input the law returns true; each argument reads behind the call as it read before'; 0 by the template 'total and deterministic' (their statements: YtpmbfgogpcjdlaaDoorTotals.lean).
  GIVEN WITH THE SEED: the statements are not yours to turn. If you find one false, say at which input.
  Laid BY PROGRAM, IN A SANDBOX (cutbox-rows.mjs): the forced cells as the released guide's own fill.sh prints them over the translation 749647c827ade503… (all of the seat's roots in one cut). By AI agents, Wed Nov 11 2026. No macro, syntax, notation, axiom, sorry.
-/
import Derived.Test.YtpmbfgogpcjdlaaDoorChecked
import GoSem.Claim
import GoSem.ClaimJoined
import GoSem.ClaimMapViews
import Derived.JoinedTies
import Derived.KernelRfl
namespace Go.Proofs.YtpmbfgogpcjdlaaDoor
/- THE CELL 'sum', in the pinned program and in every row, IS THE sha256 OF THE DUMP (.gsa) THAT YtpmbfgogpcjdlaaDoorProg.lean LOADS. Nothing in Lean hashes anything: it is a label: what it is worth is what the hold of that sum in a sandbox is worth. -/
noncomputable def Tryd.pinned : Pinned := { name := "ytpmbfgogpcjdlaadoor", sum := "749647c827ade503def949c36e7937200744e5230238b0e00e8cf100515ce9a3", checked := Tryd.checked }
namespace Rows
def none {H : Type} : Left H := { results := [], args := [] }

/- WHAT THE LISTED PACKAGE-LEVEL VARIABLES READ AS WHEN THE CALL BEGINS. Each datum BY PROGRAM (the guide's laid-datum.mjs) off the statement by which the dump's own 'gosem.cut.vars' lays the variable. In a bare row this is a premise. The card (YtpmbfgogpcjdlaaDoorCards.lean) ties it to the program's text. -/
def laid_math_bits_deBruijn32tab {H : Type} : DataW H := .agg [.lit (.int .u8 0), .lit (.int .u8 1), .lit (.int .u8 28), .lit (.int .u8 2), .lit (.int .u8 29), .lit (.int .u8 14), .lit (.int .u8 24), .lit (.int .u8 3), .lit (.int .u8 30), .lit (.int .u8 22), .lit (.int .u8 20), .lit (.int .u8 15), .lit (.int .u8 25), .lit (.int .u8 17), .lit (.int .u8 4), .lit (.int .u8 8), .lit (.int .u8 31), .lit (.int .u8 27), .lit (.int .u8 13), .lit (.int .u8 23), .lit (.int .u8 21), .lit (.int .u8 19), .lit (.int .u8 16), .lit (.int .u8 7), .lit (.int .u8 26), .lit (.int .u8 12), .lit (.int .u8 18), .lit (.int .u8 6), .lit (.int .u8 11), .lit (.int .u8 5), .lit (.int .u8 10), .lit (.int .u8 9)]
def laid_math_bits_deBruijn64tab {H : Type} : DataW H := .agg [.lit (.int .u8 0), .lit (.int .u8 1), .lit (.int .u8 56), .lit (.int .u8 2), .lit (.int .u8 57), .lit (.int .u8 49), .lit (.int .u8 28), .lit (.int .u8 3), .lit (.int .u8 61), .lit (.int .u8 58), .lit (.int .u8 42), .lit (.int .u8 50), .lit (.int .u8 38), .lit (.int .u8 29), .lit (.int .u8 17), .lit (.int .u8 4), .lit (.int .u8 62), .lit (.int .u8 47), .lit (.int .u8 59), .lit (.int .u8 36), .lit (.int .u8 45), .lit (.int .u8 43), .lit (.int .u8 51), .lit (.int .u8 22), .lit (.int .u8 53), .lit (.int .u8 39), .lit (.int .u8 33), .lit (.int .u8 30), .lit (.int .u8 24), .lit (.int .u8 18), .lit (.int .u8 12), .lit (.int .u8 5), .lit (.int .u8 63), .lit (.int .u8 55), .lit (.int .u8 48), .lit (.int .u8 27), .lit (.int .u8 60), .lit (.int .u8 41), .lit (.int .u8 37), .lit (.int .u8 16), .lit (.int .u8 46), .lit (.int .u8 35), .lit (.int .u8 44), .lit (.int .u8 21), .lit (.int .u8 52), .lit (.int .u8 32), .lit (.int .u8 23), .lit (.int .u8 11), .lit (.int .u8 54), .lit (.int .u8 26), .lit (.int .u8 40), .lit (.int .u8 15), .lit (.int .u8 34), .lit (.int .u8 20), .lit (.int .u8 31), .lit (.int .u8 10), .lit (.int .u8 25), .lit (.int .u8 14), .lit (.int .u8 19), .lit (.int .u8 9), .lit (.int .u8 13), .lit (.int .u8 8), .lit (.int .u8 7), .lit (.int .u8 6)]

/-- 'headwordlaw04.FactWrongs': WHATEVER THE INPUT: true; the input reads as it did. -/
def factWrongsSpec : ChangeSpec := { name := "factWrongs", fn := fun _ => fun
  | [d1, d2] => { results := [.lit (.bool true)], args := [d1, d2] }
  | _ => none }
def factWrongsRow : OpenClaim := { program := "ytpmbfgogpcjdlaadoor", sum := "749647c827ade503def949c36e7937200744e5230238b0e00e8cf100515ce9a3", func := "headword/headwordlaw04.FactWrongs", spec := "factWrongs", unfollowed := true, recurses := true, named := ["math/bits.deBruijn32tab", "math/bits.deBruijn64tab"], apart := false, laid := [("math/bits.deBruijn32tab", laid_math_bits_deBruijn32tab), ("math/bits.deBruijn64tab", laid_math_bits_deBruijn64tab)] }
def FactWrongsSaid : Prop := factWrongsRow.holds Tryd.pinned (OpenSpec.ofChange factWrongsSpec)

/-- ITS FALSE NEIGHBOUR: 'it returns false'. Refute it at one input. -/
def factWrongsWrong : ChangeSpec := { name := "factWrongs", fn := fun _ => fun
  | [d1, d2] => { results := [.lit (.bool false)], args := [d1, d2] }
  | _ => none }
def FactWrongsWrongFalsely : Prop := factWrongsRow.holds Tryd.pinned (OpenSpec.ofChange factWrongsWrong)

/-- 'headwordlaw04.FactHalves': WHATEVER THE INPUT: true; the input reads as it did. -/
def factHalvesSpec : ChangeSpec := { name := "factHalves", fn := fun _ => fun
  | [d1, d2] => { results := [.lit (.bool true)], args := [d1, d2] }
  | _ => none }
def factHalvesRow : OpenClaim := { program := "ytpmbfgogpcjdlaadoor", sum := "749647c827ade503def949c36e7937200744e5230238b0e00e8cf100515ce9a3", func := "headword/headwordlaw04.FactHalves", spec := "factHalves", unfollowed := true, recurses := true, named := ["math/bits.deBruijn32tab", "math/bits.deBruijn64tab"], apart := false, laid := [("math/bits.deBruijn32tab", laid_math_bits_deBruijn32tab), ("math/bits.deBruijn64tab", laid_math_bits_deBruijn64tab)] }
def FactHalvesSaid : Prop := factHalvesRow.holds Tryd.pinned (OpenSpec.ofChange factHalvesSpec)

/-- ITS FALSE NEIGHBOUR: 'it returns false'. Refute it at one input. -/
def factHalvesWrong : ChangeSpec := { name := "factHalves", fn := fun _ => fun
  | [d1, d2] => { results := [.lit (.bool false)], args := [d1, d2] }
  | _ => none }
def FactHalvesWrongFalsely : Prop := factHalvesRow.holds Tryd.pinned (OpenSpec.ofChange factHalvesWrong)

/-- 'headwordlaw04.FactShares': WHATEVER THE INPUT: true; the input reads as it did. -/
def factSharesSpec : ChangeSpec := { name := "factShares", fn := fun _ => fun
  | [d1, d2, d3] => { results := [.lit (.bool true)], args := [d1, d2, d3] }
  | _ => none }
def factSharesRow : OpenClaim := { program := "ytpmbfgogpcjdlaadoor", sum := "749647c827ade503def949c36e7937200744e5230238b0e00e8cf100515ce9a3", func := "headword/headwordlaw04.FactShares", spec := "factShares", unfollowed := true, recurses := true, named := ["math/bits.deBruijn32tab", "math/bits.deBruijn64tab"], apart := false, laid := [("math/bits.deBruijn32tab", laid_math_bits_deBruijn32tab), ("math/bits.deBruijn64tab", laid_math_bits_deBruijn64tab)] }
def FactSharesSaid : Prop := factSharesRow.holds Tryd.pinned (OpenSpec.ofChange factSharesSpec)

/-- ITS FALSE NEIGHBOUR: 'it returns false'. Refute it at one input. -/
def factSharesWrong : ChangeSpec := { name := "factShares", fn := fun _ => fun
  | [d1, d2, d3] => { results := [.lit (.bool false)], args := [d1, d2, d3] }
  | _ => none }
def FactSharesWrongFalsely : Prop := factSharesRow.holds Tryd.pinned (OpenSpec.ofChange factSharesWrong)

/-- 'headwordlaw04.FactValued': WHATEVER THE INPUT: true; the input reads as it did. -/
def factValuedSpec : ChangeSpec := { name := "factValued", fn := fun _ => fun
  | [d] => { results := [.lit (.bool true)], args := [d] }
  | _ => none }
def factValuedRow : OpenClaim := { program := "ytpmbfgogpcjdlaadoor", sum := "749647c827ade503def949c36e7937200744e5230238b0e00e8cf100515ce9a3", func := "headword/headwordlaw04.FactValued", spec := "factValued", unfollowed := true, recurses := true, named := ["math/bits.deBruijn32tab", "math/bits.deBruijn64tab"], apart := false, laid := [("math/bits.deBruijn32tab", laid_math_bits_deBruijn32tab), ("math/bits.deBruijn64tab", laid_math_bits_deBruijn64tab)] }
def FactValuedSaid : Prop := factValuedRow.holds Tryd.pinned (OpenSpec.ofChange factValuedSpec)

/-- ITS FALSE NEIGHBOUR: 'it returns false'. Refute it at one input. -/
def factValuedWrong : ChangeSpec := { name := "factValued", fn := fun _ => fun
  | [d] => { results := [.lit (.bool false)], args := [d] }
  | _ => none }
def FactValuedWrongFalsely : Prop := factValuedRow.holds Tryd.pinned (OpenSpec.ofChange factValuedWrong)

/-- 'headwordlaw04.FactShared': WHATEVER THE INPUT: true; the input reads as it did. -/
def factSharedSpec : ChangeSpec := { name := "factShared", fn := fun _ => fun
  | [d] => { results := [.lit (.bool true)], args := [d] }
  | _ => none }
def factSharedRow : OpenClaim := { program := "ytpmbfgogpcjdlaadoor", sum := "749647c827ade503def949c36e7937200744e5230238b0e00e8cf100515ce9a3", func := "headword/headwordlaw04.FactShared", spec := "factShared", unfollowed := true, recurses := true, named := ["math/bits.deBruijn32tab", "math/bits.deBruijn64tab"], apart := false, laid := [("math/bits.deBruijn32tab", laid_math_bits_deBruijn32tab), ("math/bits.deBruijn64tab", laid_math_bits_deBruijn64tab)] }
def FactSharedSaid : Prop := factSharedRow.holds Tryd.pinned (OpenSpec.ofChange factSharedSpec)

/-- ITS FALSE NEIGHBOUR: 'it returns false'. Refute it at one input. -/
def factSharedWrong : ChangeSpec := { name := "factShared", fn := fun _ => fun
  | [d] => { results := [.lit (.bool false)], args := [d] }
  | _ => none }
def FactSharedWrongFalsely : Prop := factSharedRow.holds Tryd.pinned (OpenSpec.ofChange factSharedWrong)

/-- 'headwordlaw04.FactShown': WHATEVER THE INPUT: true; the input reads as it did. -/
def factShownSpec : ChangeSpec := { name := "factShown", fn := fun _ => fun
  | [d1, d2, d3, d4] => { results := [.lit (.bool true)], args := [d1, d2, d3, d4] }
  | _ => none }
def factShownRow : OpenClaim := { program := "ytpmbfgogpcjdlaadoor", sum := "749647c827ade503def949c36e7937200744e5230238b0e00e8cf100515ce9a3", func := "headword/headwordlaw04.FactShown", spec := "factShown", unfollowed := true, recurses := true, named := ["math/bits.deBruijn32tab", "math/bits.deBruijn64tab"], apart := false, laid := [("math/bits.deBruijn32tab", laid_math_bits_deBruijn32tab), ("math/bits.deBruijn64tab", laid_math_bits_deBruijn64tab)] }
def FactShownSaid : Prop := factShownRow.holds Tryd.pinned (OpenSpec.ofChange factShownSpec)

/-- ITS FALSE NEIGHBOUR: 'it returns false'. Refute it at one input. -/
def factShownWrong : ChangeSpec := { name := "factShown", fn := fun _ => fun
  | [d1, d2, d3, d4] => { results := [.lit (.bool false)], args := [d1, d2, d3, d4] }
  | _ => none }
def FactShownWrongFalsely : Prop := factShownRow.holds Tryd.pinned (OpenSpec.ofChange factShownWrong)

/-- 'headwordlaw04.FactKnown': WHATEVER THE INPUT: true; the input reads as it did. -/
def factKnownSpec : ChangeSpec := { name := "factKnown", fn := fun _ => fun
  | [] => { results := [.lit (.bool true)], args := [] }
  | _ => none }
def factKnownRow : OpenClaim := { program := "ytpmbfgogpcjdlaadoor", sum := "749647c827ade503def949c36e7937200744e5230238b0e00e8cf100515ce9a3", func := "headword/headwordlaw04.FactKnown", spec := "factKnown", unfollowed := true, recurses := true, named := ["math/bits.deBruijn32tab", "math/bits.deBruijn64tab"], apart := false, laid := [("math/bits.deBruijn32tab", laid_math_bits_deBruijn32tab), ("math/bits.deBruijn64tab", laid_math_bits_deBruijn64tab)] }
def FactKnownSaid : Prop := factKnownRow.holds Tryd.pinned (OpenSpec.ofChange factKnownSpec)

/-- ITS FALSE NEIGHBOUR: 'it returns false'. Refute it at one input. -/
def factKnownWrong : ChangeSpec := { name := "factKnown", fn := fun _ => fun
  | [] => { results := [.lit (.bool false)], args := [] }
  | _ => none }
def FactKnownWrongFalsely : Prop := factKnownRow.holds Tryd.pinned (OpenSpec.ofChange factKnownWrong)

/-- 'headwordlaw04.FactGiven': WHATEVER THE INPUT: true; the input reads as it did. -/
def factGivenSpec : ChangeSpec := { name := "factGiven", fn := fun _ => fun
  | [d1, d2] => { results := [.lit (.bool true)], args := [d1, d2] }
  | _ => none }
def factGivenRow : OpenClaim := { program := "ytpmbfgogpcjdlaadoor", sum := "749647c827ade503def949c36e7937200744e5230238b0e00e8cf100515ce9a3", func := "headword/headwordlaw04.FactGiven", spec := "factGiven", unfollowed := true, recurses := true, named := ["math/bits.deBruijn32tab", "math/bits.deBruijn64tab"], apart := false, laid := [("math/bits.deBruijn32tab", laid_math_bits_deBruijn32tab), ("math/bits.deBruijn64tab", laid_math_bits_deBruijn64tab)] }
def FactGivenSaid : Prop := factGivenRow.holds Tryd.pinned (OpenSpec.ofChange factGivenSpec)

/-- ITS FALSE NEIGHBOUR: 'it returns false'. Refute it at one input. -/
def factGivenWrong : ChangeSpec := { name := "factGiven", fn := fun _ => fun
  | [d1, d2] => { results := [.lit (.bool false)], args := [d1, d2] }
  | _ => none }
def FactGivenWrongFalsely : Prop := factGivenRow.holds Tryd.pinned (OpenSpec.ofChange factGivenWrong)

/-- 'headwordlaw04.FactMore': WHATEVER THE INPUT: true; the input reads as it did. -/
def factMoreSpec : ChangeSpec := { name := "factMore", fn := fun _ => fun
  | [d1, d2, d3] => { results := [.lit (.bool true)], args := [d1, d2, d3] }
  | _ => none }
def factMoreRow : OpenClaim := { program := "ytpmbfgogpcjdlaadoor", sum := "749647c827ade503def949c36e7937200744e5230238b0e00e8cf100515ce9a3", func := "headword/headwordlaw04.FactMore", spec := "factMore", unfollowed := true, recurses := true, named := ["math/bits.deBruijn32tab", "math/bits.deBruijn64tab"], apart := false, laid := [("math/bits.deBruijn32tab", laid_math_bits_deBruijn32tab), ("math/bits.deBruijn64tab", laid_math_bits_deBruijn64tab)] }
def FactMoreSaid : Prop := factMoreRow.holds Tryd.pinned (OpenSpec.ofChange factMoreSpec)

/-- ITS FALSE NEIGHBOUR: 'it returns false'. Refute it at one input. -/
def factMoreWrong : ChangeSpec := { name := "factMore", fn := fun _ => fun
  | [d1, d2, d3] => { results := [.lit (.bool false)], args := [d1, d2, d3] }
  | _ => none }
def FactMoreWrongFalsely : Prop := factMoreRow.holds Tryd.pinned (OpenSpec.ofChange factMoreWrong)

/-- 'headwordlaw04.FactNemhauser': WHATEVER THE INPUT: true; the input reads as it did. -/
def factNemhauserSpec : ChangeSpec := { name := "factNemhauser", fn := fun _ => fun
  | [d] => { results := [.lit (.bool true)], args := [d] }
  | _ => none }
def factNemhauserRow : OpenClaim := { program := "ytpmbfgogpcjdlaadoor", sum := "749647c827ade503def949c36e7937200744e5230238b0e00e8cf100515ce9a3", func := "headword/headwordlaw04.FactNemhauser", spec := "factNemhauser", unfollowed := true, recurses := true, named := ["math/bits.deBruijn32tab", "math/bits.deBruijn64tab"], apart := false, laid := [("math/bits.deBruijn32tab", laid_math_bits_deBruijn32tab), ("math/bits.deBruijn64tab", laid_math_bits_deBruijn64tab)] }
def FactNemhauserSaid : Prop := factNemhauserRow.holds Tryd.pinned (OpenSpec.ofChange factNemhauserSpec)

/-- ITS FALSE NEIGHBOUR: 'it returns false'. Refute it at one input. -/
def factNemhauserWrong : ChangeSpec := { name := "factNemhauser", fn := fun _ => fun
  | [d] => { results := [.lit (.bool false)], args := [d] }
  | _ => none }
def FactNemhauserWrongFalsely : Prop := factNemhauserRow.holds Tryd.pinned (OpenSpec.ofChange factNemhauserWrong)

/-- 'headwordlaw04.FactBounds': WHATEVER THE INPUT: true; the input reads as it did. -/
def factBoundsSpec : ChangeSpec := { name := "factBounds", fn := fun _ => fun
  | [d] => { results := [.lit (.bool true)], args := [d] }
  | _ => none }
def factBoundsRow : OpenClaim := { program := "ytpmbfgogpcjdlaadoor", sum := "749647c827ade503def949c36e7937200744e5230238b0e00e8cf100515ce9a3", func := "headword/headwordlaw04.FactBounds", spec := "factBounds", unfollowed := true, recurses := true, named := ["math/bits.deBruijn32tab", "math/bits.deBruijn64tab"], apart := false, laid := [("math/bits.deBruijn32tab", laid_math_bits_deBruijn32tab), ("math/bits.deBruijn64tab", laid_math_bits_deBruijn64tab)] }
def FactBoundsSaid : Prop := factBoundsRow.holds Tryd.pinned (OpenSpec.ofChange factBoundsSpec)

/-- ITS FALSE NEIGHBOUR: 'it returns false'. Refute it at one input. -/
def factBoundsWrong : ChangeSpec := { name := "factBounds", fn := fun _ => fun
  | [d] => { results := [.lit (.bool false)], args := [d] }
  | _ => none }
def FactBoundsWrongFalsely : Prop := factBoundsRow.holds Tryd.pinned (OpenSpec.ofChange factBoundsWrong)

/-- 'headwordlaw04.FactNamed': WHATEVER THE INPUT: true; the input reads as it did. -/
def factNamedSpec : ChangeSpec := { name := "factNamed", fn := fun _ => fun
  | [d1, d2] => { results := [.lit (.bool true)], args := [d1, d2] }
  | _ => none }
def factNamedRow : OpenClaim := { program := "ytpmbfgogpcjdlaadoor", sum := "749647c827ade503def949c36e7937200744e5230238b0e00e8cf100515ce9a3", func := "headword/headwordlaw04.FactNamed", spec := "factNamed", unfollowed := true, recurses := true, named := ["math/bits.deBruijn32tab", "math/bits.deBruijn64tab"], apart := false, laid := [("math/bits.deBruijn32tab", laid_math_bits_deBruijn32tab), ("math/bits.deBruijn64tab", laid_math_bits_deBruijn64tab)] }
def FactNamedSaid : Prop := factNamedRow.holds Tryd.pinned (OpenSpec.ofChange factNamedSpec)

/-- ITS FALSE NEIGHBOUR: 'it returns false'. Refute it at one input. -/
def factNamedWrong : ChangeSpec := { name := "factNamed", fn := fun _ => fun
  | [d1, d2] => { results := [.lit (.bool false)], args := [d1, d2] }
  | _ => none }
def FactNamedWrongFalsely : Prop := factNamedRow.holds Tryd.pinned (OpenSpec.ofChange factNamedWrong)

/-- 'headwordlaw04.FactRinged': WHATEVER THE INPUT: true; the input reads as it did. -/
def factRingedSpec : ChangeSpec := { name := "factRinged", fn := fun _ => fun
  | [d] => { results := [.lit (.bool true)], args := [d] }
  | _ => none }
def factRingedRow : OpenClaim := { program := "ytpmbfgogpcjdlaadoor", sum := "749647c827ade503def949c36e7937200744e5230238b0e00e8cf100515ce9a3", func := "headword/headwordlaw04.FactRinged", spec := "factRinged", unfollowed := true, recurses := true, named := ["math/bits.deBruijn32tab", "math/bits.deBruijn64tab"], apart := false, laid := [("math/bits.deBruijn32tab", laid_math_bits_deBruijn32tab), ("math/bits.deBruijn64tab", laid_math_bits_deBruijn64tab)] }
def FactRingedSaid : Prop := factRingedRow.holds Tryd.pinned (OpenSpec.ofChange factRingedSpec)

/-- ITS FALSE NEIGHBOUR: 'it returns false'. Refute it at one input. -/
def factRingedWrong : ChangeSpec := { name := "factRinged", fn := fun _ => fun
  | [d] => { results := [.lit (.bool false)], args := [d] }
  | _ => none }
def FactRingedWrongFalsely : Prop := factRingedRow.holds Tryd.pinned (OpenSpec.ofChange factRingedWrong)

/- THE SECOND FORM. 'bulk': how many values and letters a reading holds, each counted each time it is reached (what is shared counts as often as it is met; a slice's spare places count too). A statement '..UptoSaid' is the law's where the arguments, and the package variables that the reading takes, are together of bulk at most 1048576: NARROWER than '..Said'. Prove '..Said' where nothing that the law and all that it calls make is longer than what came in: it says more and counts as full. Else prove '..UptoSaid'. A law counts once. -/
mutual
def uptoBulk {H : Type} : DataW H → Nat
  | .lit (.string bytes) => bytes.length + 1
  | .lit _ => 1
  | .nil => 1
  | .ptr d => uptoBulk d + 1
  | .slice elems spare => uptoBulkAll elems + uptoBulkAll spare + 1
  | .agg parts => uptoBulkAll parts + 1
  | .iface _ d => uptoBulk d + 1
  | .map entries => uptoBulkEntries entries + 1
  | .held _ => 1
def uptoBulkAll {H : Type} : List (DataW H) → Nat
  | [] => 0
  | d :: r => uptoBulk d + uptoBulkAll r
def uptoBulkEntries {H : Type} : List (Lit × DataW H) → Nat
  | [] => 0
  | x :: r => uptoBulkEntry x + uptoBulkEntries r
def uptoBulkEntry {H : Type} : Lit × DataW H → Nat
  | (.string bytes, d) => bytes.length + uptoBulk d + 1
  | (_, d) => uptoBulk d + 1
 end
def uptoSmall : (H : Type) → List (DataW H) → Bool := fun _ ds => decide (uptoBulkAll ds ≤ 1048576)
def OpenSpec.upto (s : _root_.Go.ChangeSpec) : _root_.Go.OpenSpec := { _root_.Go.OpenSpec.ofChange s with cond := some uptoSmall }

/-- 'headwordlaw04.FactWrongs', WHERE WHAT IT READS IS OF BULK AT MOST 1048576: true; the input reads as it did. -/
def factWrongsUptoRow : OpenClaim := { program := "ytpmbfgogpcjdlaadoor", sum := "749647c827ade503def949c36e7937200744e5230238b0e00e8cf100515ce9a3", func := "headword/headwordlaw04.FactWrongs", spec := "factWrongs", unfollowed := true, recurses := true, named := ["math/bits.deBruijn32tab", "math/bits.deBruijn64tab"], apart := false, laid := [("math/bits.deBruijn32tab", laid_math_bits_deBruijn32tab), ("math/bits.deBruijn64tab", laid_math_bits_deBruijn64tab)], narrowed := true }
def FactWrongsUptoSaid : Prop := factWrongsUptoRow.holds Tryd.pinned (OpenSpec.upto factWrongsSpec)

/-- 'headwordlaw04.FactHalves', WHERE WHAT IT READS IS OF BULK AT MOST 1048576: true; the input reads as it did. -/
def factHalvesUptoRow : OpenClaim := { program := "ytpmbfgogpcjdlaadoor", sum := "749647c827ade503def949c36e7937200744e5230238b0e00e8cf100515ce9a3", func := "headword/headwordlaw04.FactHalves", spec := "factHalves", unfollowed := true, recurses := true, named := ["math/bits.deBruijn32tab", "math/bits.deBruijn64tab"], apart := false, laid := [("math/bits.deBruijn32tab", laid_math_bits_deBruijn32tab), ("math/bits.deBruijn64tab", laid_math_bits_deBruijn64tab)], narrowed := true }
def FactHalvesUptoSaid : Prop := factHalvesUptoRow.holds Tryd.pinned (OpenSpec.upto factHalvesSpec)

/-- 'headwordlaw04.FactShares', WHERE WHAT IT READS IS OF BULK AT MOST 1048576: true; the input reads as it did. -/
def factSharesUptoRow : OpenClaim := { program := "ytpmbfgogpcjdlaadoor", sum := "749647c827ade503def949c36e7937200744e5230238b0e00e8cf100515ce9a3", func := "headword/headwordlaw04.FactShares", spec := "factShares", unfollowed := true, recurses := true, named := ["math/bits.deBruijn32tab", "math/bits.deBruijn64tab"], apart := false, laid := [("math/bits.deBruijn32tab", laid_math_bits_deBruijn32tab), ("math/bits.deBruijn64tab", laid_math_bits_deBruijn64tab)], narrowed := true }
def FactSharesUptoSaid : Prop := factSharesUptoRow.holds Tryd.pinned (OpenSpec.upto factSharesSpec)

/-- 'headwordlaw04.FactValued', WHERE WHAT IT READS IS OF BULK AT MOST 1048576: true; the input reads as it did. -/
def factValuedUptoRow : OpenClaim := { program := "ytpmbfgogpcjdlaadoor", sum := "749647c827ade503def949c36e7937200744e5230238b0e00e8cf100515ce9a3", func := "headword/headwordlaw04.FactValued", spec := "factValued", unfollowed := true, recurses := true, named := ["math/bits.deBruijn32tab", "math/bits.deBruijn64tab"], apart := false, laid := [("math/bits.deBruijn32tab", laid_math_bits_deBruijn32tab), ("math/bits.deBruijn64tab", laid_math_bits_deBruijn64tab)], narrowed := true }
def FactValuedUptoSaid : Prop := factValuedUptoRow.holds Tryd.pinned (OpenSpec.upto factValuedSpec)

/-- 'headwordlaw04.FactShared', WHERE WHAT IT READS IS OF BULK AT MOST 1048576: true; the input reads as it did. -/
def factSharedUptoRow : OpenClaim := { program := "ytpmbfgogpcjdlaadoor", sum := "749647c827ade503def949c36e7937200744e5230238b0e00e8cf100515ce9a3", func := "headword/headwordlaw04.FactShared", spec := "factShared", unfollowed := true, recurses := true, named := ["math/bits.deBruijn32tab", "math/bits.deBruijn64tab"], apart := false, laid := [("math/bits.deBruijn32tab", laid_math_bits_deBruijn32tab), ("math/bits.deBruijn64tab", laid_math_bits_deBruijn64tab)], narrowed := true }
def FactSharedUptoSaid : Prop := factSharedUptoRow.holds Tryd.pinned (OpenSpec.upto factSharedSpec)

/-- 'headwordlaw04.FactShown', WHERE WHAT IT READS IS OF BULK AT MOST 1048576: true; the input reads as it did. -/
def factShownUptoRow : OpenClaim := { program := "ytpmbfgogpcjdlaadoor", sum := "749647c827ade503def949c36e7937200744e5230238b0e00e8cf100515ce9a3", func := "headword/headwordlaw04.FactShown", spec := "factShown", unfollowed := true, recurses := true, named := ["math/bits.deBruijn32tab", "math/bits.deBruijn64tab"], apart := false, laid := [("math/bits.deBruijn32tab", laid_math_bits_deBruijn32tab), ("math/bits.deBruijn64tab", laid_math_bits_deBruijn64tab)], narrowed := true }
def FactShownUptoSaid : Prop := factShownUptoRow.holds Tryd.pinned (OpenSpec.upto factShownSpec)

/-- 'headwordlaw04.FactKnown', WHERE WHAT IT READS IS OF BULK AT MOST 1048576: true; the input reads as it did. -/
def factKnownUptoRow : OpenClaim := { program := "ytpmbfgogpcjdlaadoor", sum := "749647c827ade503def949c36e7937200744e5230238b0e00e8cf100515ce9a3", func := "headword/headwordlaw04.FactKnown", spec := "factKnown", unfollowed := true, recurses := true, named := ["math/bits.deBruijn32tab", "math/bits.deBruijn64tab"], apart := false, laid := [("math/bits.deBruijn32tab", laid_math_bits_deBruijn32tab), ("math/bits.deBruijn64tab", laid_math_bits_deBruijn64tab)], narrowed := true }
def FactKnownUptoSaid : Prop := factKnownUptoRow.holds Tryd.pinned (OpenSpec.upto factKnownSpec)

/-- 'headwordlaw04.FactGiven', WHERE WHAT IT READS IS OF BULK AT MOST 1048576: true; the input reads as it did. -/
def factGivenUptoRow : OpenClaim := { program := "ytpmbfgogpcjdlaadoor", sum := "749647c827ade503def949c36e7937200744e5230238b0e00e8cf100515ce9a3", func := "headword/headwordlaw04.FactGiven", spec := "factGiven", unfollowed := true, recurses := true, named := ["math/bits.deBruijn32tab", "math/bits.deBruijn64tab"], apart := false, laid := [("math/bits.deBruijn32tab", laid_math_bits_deBruijn32tab), ("math/bits.deBruijn64tab", laid_math_bits_deBruijn64tab)], narrowed := true }
def FactGivenUptoSaid : Prop := factGivenUptoRow.holds Tryd.pinned (OpenSpec.upto factGivenSpec)

/-- 'headwordlaw04.FactMore', WHERE WHAT IT READS IS OF BULK AT MOST 1048576: true; the input reads as it did. -/
def factMoreUptoRow : OpenClaim := { program := "ytpmbfgogpcjdlaadoor", sum := "749647c827ade503def949c36e7937200744e5230238b0e00e8cf100515ce9a3", func := "headword/headwordlaw04.FactMore", spec := "factMore", unfollowed := true, recurses := true, named := ["math/bits.deBruijn32tab", "math/bits.deBruijn64tab"], apart := false, laid := [("math/bits.deBruijn32tab", laid_math_bits_deBruijn32tab), ("math/bits.deBruijn64tab", laid_math_bits_deBruijn64tab)], narrowed := true }
def FactMoreUptoSaid : Prop := factMoreUptoRow.holds Tryd.pinned (OpenSpec.upto factMoreSpec)

/-- 'headwordlaw04.FactNemhauser', WHERE WHAT IT READS IS OF BULK AT MOST 1048576: true; the input reads as it did. -/
def factNemhauserUptoRow : OpenClaim := { program := "ytpmbfgogpcjdlaadoor", sum := "749647c827ade503def949c36e7937200744e5230238b0e00e8cf100515ce9a3", func := "headword/headwordlaw04.FactNemhauser", spec := "factNemhauser", unfollowed := true, recurses := true, named := ["math/bits.deBruijn32tab", "math/bits.deBruijn64tab"], apart := false, laid := [("math/bits.deBruijn32tab", laid_math_bits_deBruijn32tab), ("math/bits.deBruijn64tab", laid_math_bits_deBruijn64tab)], narrowed := true }
def FactNemhauserUptoSaid : Prop := factNemhauserUptoRow.holds Tryd.pinned (OpenSpec.upto factNemhauserSpec)

/-- 'headwordlaw04.FactBounds', WHERE WHAT IT READS IS OF BULK AT MOST 1048576: true; the input reads as it did. -/
def factBoundsUptoRow : OpenClaim := { program := "ytpmbfgogpcjdlaadoor", sum := "749647c827ade503def949c36e7937200744e5230238b0e00e8cf100515ce9a3", func := "headword/headwordlaw04.FactBounds", spec := "factBounds", unfollowed := true, recurses := true, named := ["math/bits.deBruijn32tab", "math/bits.deBruijn64tab"], apart := false, laid := [("math/bits.deBruijn32tab", laid_math_bits_deBruijn32tab), ("math/bits.deBruijn64tab", laid_math_bits_deBruijn64tab)], narrowed := true }
def FactBoundsUptoSaid : Prop := factBoundsUptoRow.holds Tryd.pinned (OpenSpec.upto factBoundsSpec)

/-- 'headwordlaw04.FactNamed', WHERE WHAT IT READS IS OF BULK AT MOST 1048576: true; the input reads as it did. -/
def factNamedUptoRow : OpenClaim := { program := "ytpmbfgogpcjdlaadoor", sum := "749647c827ade503def949c36e7937200744e5230238b0e00e8cf100515ce9a3", func := "headword/headwordlaw04.FactNamed", spec := "factNamed", unfollowed := true, recurses := true, named := ["math/bits.deBruijn32tab", "math/bits.deBruijn64tab"], apart := false, laid := [("math/bits.deBruijn32tab", laid_math_bits_deBruijn32tab), ("math/bits.deBruijn64tab", laid_math_bits_deBruijn64tab)], narrowed := true }
def FactNamedUptoSaid : Prop := factNamedUptoRow.holds Tryd.pinned (OpenSpec.upto factNamedSpec)

/-- 'headwordlaw04.FactRinged', WHERE WHAT IT READS IS OF BULK AT MOST 1048576: true; the input reads as it did. -/
def factRingedUptoRow : OpenClaim := { program := "ytpmbfgogpcjdlaadoor", sum := "749647c827ade503def949c36e7937200744e5230238b0e00e8cf100515ce9a3", func := "headword/headwordlaw04.FactRinged", spec := "factRinged", unfollowed := true, recurses := true, named := ["math/bits.deBruijn32tab", "math/bits.deBruijn64tab"], apart := false, laid := [("math/bits.deBruijn32tab", laid_math_bits_deBruijn32tab), ("math/bits.deBruijn64tab", laid_math_bits_deBruijn64tab)], narrowed := true }
def FactRingedUptoSaid : Prop := factRingedUptoRow.holds Tryd.pinned (OpenSpec.upto factRingedSpec)

end Rows
end Go.Proofs.YtpmbfgogpcjdlaaDoor
