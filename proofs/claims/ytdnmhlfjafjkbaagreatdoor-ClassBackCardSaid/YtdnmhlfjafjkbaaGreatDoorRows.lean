/-
  NARROWER THAN 'FOR EVERY INPUT', by the rows' own cells (each row's printed sentence says how): ClassClashes: laid · ClassTrees: laid · ClassFar: laid · ClassMost: laid · ClassSides: laid · ClassBuneman: laid · ClassFilled: laid · ClassPairs: laid · ClassBack: laid · ClassWays: laid · ClassNamed: laid.
  DERIVED. THE GIVEN ROWS OF THIS SEAT. 11 by the template 'for every input the law returns true; each argument reads behind the call as it read before'; 0 by the template 'total and deterministic' (their statements: YtdnmhlfjafjkbaaGreatDoorTotals.lean).
  GIVEN WITH THE SEED: the statements are not yours to turn. If you find one false, say at which input.
  Laid BY PROGRAM, IN A SANDBOX (cutbox-rows.mjs): the forced cells as the released guide's own fill.sh prints them over the translation 2fc7deee541f3cf3… (all of the seat's roots in one cut). By AI agents, Wed Nov 11 2026. No macro, syntax, notation, axiom, sorry.
-/
import Derived.Test.YtdnmhlfjafjkbaaGreatDoorChecked
import GoSem.Claim
import GoSem.ClaimJoined
import GoSem.ClaimMapViews
import Derived.JoinedTies
import Derived.KernelRfl
namespace Go.Proofs.YtdnmhlfjafjkbaaGreatDoor
/- THE CELL 'sum', in the pinned program and in every row, IS THE sha256 OF THE DUMP (.gsa) THAT YtdnmhlfjafjkbaaGreatDoorProg.lean LOADS. Nothing in Lean hashes anything: it is a label: what it is worth is what the hold of that sum in a sandbox is worth. -/
noncomputable def Tryz.pinned : Pinned := { name := "ytdnmhlfjafjkbaagreatdoor", sum := "2fc7deee541f3cf37c4eb6f7dc73e5e5e24fcf741c4421a2d3b77788b0dc4e82", checked := Tryz.checked }
namespace Rows
def none {H : Type} : Left H := { results := [], args := [] }

/- WHAT THE LISTED PACKAGE-LEVEL VARIABLES READ AS WHEN THE CALL BEGINS. Each datum BY PROGRAM (the guide's laid-datum.mjs) off the statement by which the dump's own 'gosem.cut.vars' lays the variable. In a bare row this is a premise. The card (YtdnmhlfjafjkbaaGreatDoorCards.lean) ties it to the program's text. -/
def laid_math_bits_deBruijn32tab {H : Type} : DataW H := .agg [.lit (.int .u8 0), .lit (.int .u8 1), .lit (.int .u8 28), .lit (.int .u8 2), .lit (.int .u8 29), .lit (.int .u8 14), .lit (.int .u8 24), .lit (.int .u8 3), .lit (.int .u8 30), .lit (.int .u8 22), .lit (.int .u8 20), .lit (.int .u8 15), .lit (.int .u8 25), .lit (.int .u8 17), .lit (.int .u8 4), .lit (.int .u8 8), .lit (.int .u8 31), .lit (.int .u8 27), .lit (.int .u8 13), .lit (.int .u8 23), .lit (.int .u8 21), .lit (.int .u8 19), .lit (.int .u8 16), .lit (.int .u8 7), .lit (.int .u8 26), .lit (.int .u8 12), .lit (.int .u8 18), .lit (.int .u8 6), .lit (.int .u8 11), .lit (.int .u8 5), .lit (.int .u8 10), .lit (.int .u8 9)]
def laid_math_bits_deBruijn64tab {H : Type} : DataW H := .agg [.lit (.int .u8 0), .lit (.int .u8 1), .lit (.int .u8 56), .lit (.int .u8 2), .lit (.int .u8 57), .lit (.int .u8 49), .lit (.int .u8 28), .lit (.int .u8 3), .lit (.int .u8 61), .lit (.int .u8 58), .lit (.int .u8 42), .lit (.int .u8 50), .lit (.int .u8 38), .lit (.int .u8 29), .lit (.int .u8 17), .lit (.int .u8 4), .lit (.int .u8 62), .lit (.int .u8 47), .lit (.int .u8 59), .lit (.int .u8 36), .lit (.int .u8 45), .lit (.int .u8 43), .lit (.int .u8 51), .lit (.int .u8 22), .lit (.int .u8 53), .lit (.int .u8 39), .lit (.int .u8 33), .lit (.int .u8 30), .lit (.int .u8 24), .lit (.int .u8 18), .lit (.int .u8 12), .lit (.int .u8 5), .lit (.int .u8 63), .lit (.int .u8 55), .lit (.int .u8 48), .lit (.int .u8 27), .lit (.int .u8 60), .lit (.int .u8 41), .lit (.int .u8 37), .lit (.int .u8 16), .lit (.int .u8 46), .lit (.int .u8 35), .lit (.int .u8 44), .lit (.int .u8 21), .lit (.int .u8 52), .lit (.int .u8 32), .lit (.int .u8 23), .lit (.int .u8 11), .lit (.int .u8 54), .lit (.int .u8 26), .lit (.int .u8 40), .lit (.int .u8 15), .lit (.int .u8 34), .lit (.int .u8 20), .lit (.int .u8 31), .lit (.int .u8 10), .lit (.int .u8 25), .lit (.int .u8 14), .lit (.int .u8 19), .lit (.int .u8 9), .lit (.int .u8 13), .lit (.int .u8 8), .lit (.int .u8 7), .lit (.int .u8 6)]

/-- 'headwordlaw05.ClassClashes': WHATEVER THE INPUT: true; the input reads as it did. -/
def classClashesSpec : ChangeSpec := { name := "classClashes", fn := fun _ => fun
  | [d1, d2, d3, d4] => { results := [.lit (.bool true)], args := [d1, d2, d3, d4] }
  | _ => none }
def classClashesRow : OpenClaim := { program := "ytdnmhlfjafjkbaagreatdoor", sum := "2fc7deee541f3cf37c4eb6f7dc73e5e5e24fcf741c4421a2d3b77788b0dc4e82", func := "headword/headwordlaw05.ClassClashes", spec := "classClashes", unfollowed := true, recurses := true, named := ["math/bits.deBruijn32tab", "math/bits.deBruijn64tab"], apart := false, laid := [("math/bits.deBruijn32tab", laid_math_bits_deBruijn32tab), ("math/bits.deBruijn64tab", laid_math_bits_deBruijn64tab)] }
def ClassClashesSaid : Prop := classClashesRow.holds Tryz.pinned (OpenSpec.ofChange classClashesSpec)

/-- ITS FALSE NEIGHBOUR: 'it returns false'. Refute it at one input. -/
def classClashesWrong : ChangeSpec := { name := "classClashes", fn := fun _ => fun
  | [d1, d2, d3, d4] => { results := [.lit (.bool false)], args := [d1, d2, d3, d4] }
  | _ => none }
def ClassClashesWrongFalsely : Prop := classClashesRow.holds Tryz.pinned (OpenSpec.ofChange classClashesWrong)

/-- 'headwordlaw05.ClassTrees': WHATEVER THE INPUT: true; the input reads as it did. -/
def classTreesSpec : ChangeSpec := { name := "classTrees", fn := fun _ => fun
  | [d1, d2, d3] => { results := [.lit (.bool true)], args := [d1, d2, d3] }
  | _ => none }
def classTreesRow : OpenClaim := { program := "ytdnmhlfjafjkbaagreatdoor", sum := "2fc7deee541f3cf37c4eb6f7dc73e5e5e24fcf741c4421a2d3b77788b0dc4e82", func := "headword/headwordlaw05.ClassTrees", spec := "classTrees", unfollowed := true, recurses := true, named := ["math/bits.deBruijn32tab", "math/bits.deBruijn64tab"], apart := false, laid := [("math/bits.deBruijn32tab", laid_math_bits_deBruijn32tab), ("math/bits.deBruijn64tab", laid_math_bits_deBruijn64tab)] }
def ClassTreesSaid : Prop := classTreesRow.holds Tryz.pinned (OpenSpec.ofChange classTreesSpec)

/-- ITS FALSE NEIGHBOUR: 'it returns false'. Refute it at one input. -/
def classTreesWrong : ChangeSpec := { name := "classTrees", fn := fun _ => fun
  | [d1, d2, d3] => { results := [.lit (.bool false)], args := [d1, d2, d3] }
  | _ => none }
def ClassTreesWrongFalsely : Prop := classTreesRow.holds Tryz.pinned (OpenSpec.ofChange classTreesWrong)

/-- 'headwordlaw05.ClassFar': WHATEVER THE INPUT: true; the input reads as it did. -/
def classFarSpec : ChangeSpec := { name := "classFar", fn := fun _ => fun
  | [d1, d2, d3, d4, d5, d6] => { results := [.lit (.bool true)], args := [d1, d2, d3, d4, d5, d6] }
  | _ => none }
def classFarRow : OpenClaim := { program := "ytdnmhlfjafjkbaagreatdoor", sum := "2fc7deee541f3cf37c4eb6f7dc73e5e5e24fcf741c4421a2d3b77788b0dc4e82", func := "headword/headwordlaw05.ClassFar", spec := "classFar", unfollowed := true, recurses := true, named := ["math/bits.deBruijn32tab", "math/bits.deBruijn64tab"], apart := false, laid := [("math/bits.deBruijn32tab", laid_math_bits_deBruijn32tab), ("math/bits.deBruijn64tab", laid_math_bits_deBruijn64tab)] }
def ClassFarSaid : Prop := classFarRow.holds Tryz.pinned (OpenSpec.ofChange classFarSpec)

/-- ITS FALSE NEIGHBOUR: 'it returns false'. Refute it at one input. -/
def classFarWrong : ChangeSpec := { name := "classFar", fn := fun _ => fun
  | [d1, d2, d3, d4, d5, d6] => { results := [.lit (.bool false)], args := [d1, d2, d3, d4, d5, d6] }
  | _ => none }
def ClassFarWrongFalsely : Prop := classFarRow.holds Tryz.pinned (OpenSpec.ofChange classFarWrong)

/-- 'headwordlaw05.ClassMost': WHATEVER THE INPUT: true; the input reads as it did. -/
def classMostSpec : ChangeSpec := { name := "classMost", fn := fun _ => fun
  | [d] => { results := [.lit (.bool true)], args := [d] }
  | _ => none }
def classMostRow : OpenClaim := { program := "ytdnmhlfjafjkbaagreatdoor", sum := "2fc7deee541f3cf37c4eb6f7dc73e5e5e24fcf741c4421a2d3b77788b0dc4e82", func := "headword/headwordlaw05.ClassMost", spec := "classMost", unfollowed := true, recurses := true, named := ["math/bits.deBruijn32tab", "math/bits.deBruijn64tab"], apart := false, laid := [("math/bits.deBruijn32tab", laid_math_bits_deBruijn32tab), ("math/bits.deBruijn64tab", laid_math_bits_deBruijn64tab)] }
def ClassMostSaid : Prop := classMostRow.holds Tryz.pinned (OpenSpec.ofChange classMostSpec)

/-- ITS FALSE NEIGHBOUR: 'it returns false'. Refute it at one input. -/
def classMostWrong : ChangeSpec := { name := "classMost", fn := fun _ => fun
  | [d] => { results := [.lit (.bool false)], args := [d] }
  | _ => none }
def ClassMostWrongFalsely : Prop := classMostRow.holds Tryz.pinned (OpenSpec.ofChange classMostWrong)

/-- 'headwordlaw05.ClassSides': WHATEVER THE INPUT: true; the input reads as it did. -/
def classSidesSpec : ChangeSpec := { name := "classSides", fn := fun _ => fun
  | [d1, d2, d3, d4] => { results := [.lit (.bool true)], args := [d1, d2, d3, d4] }
  | _ => none }
def classSidesRow : OpenClaim := { program := "ytdnmhlfjafjkbaagreatdoor", sum := "2fc7deee541f3cf37c4eb6f7dc73e5e5e24fcf741c4421a2d3b77788b0dc4e82", func := "headword/headwordlaw05.ClassSides", spec := "classSides", unfollowed := true, recurses := true, named := ["math/bits.deBruijn32tab", "math/bits.deBruijn64tab"], apart := false, laid := [("math/bits.deBruijn32tab", laid_math_bits_deBruijn32tab), ("math/bits.deBruijn64tab", laid_math_bits_deBruijn64tab)] }
def ClassSidesSaid : Prop := classSidesRow.holds Tryz.pinned (OpenSpec.ofChange classSidesSpec)

/-- ITS FALSE NEIGHBOUR: 'it returns false'. Refute it at one input. -/
def classSidesWrong : ChangeSpec := { name := "classSides", fn := fun _ => fun
  | [d1, d2, d3, d4] => { results := [.lit (.bool false)], args := [d1, d2, d3, d4] }
  | _ => none }
def ClassSidesWrongFalsely : Prop := classSidesRow.holds Tryz.pinned (OpenSpec.ofChange classSidesWrong)

/-- 'headwordlaw05.ClassBuneman': WHATEVER THE INPUT: true; the input reads as it did. -/
def classBunemanSpec : ChangeSpec := { name := "classBuneman", fn := fun _ => fun
  | [d] => { results := [.lit (.bool true)], args := [d] }
  | _ => none }
def classBunemanRow : OpenClaim := { program := "ytdnmhlfjafjkbaagreatdoor", sum := "2fc7deee541f3cf37c4eb6f7dc73e5e5e24fcf741c4421a2d3b77788b0dc4e82", func := "headword/headwordlaw05.ClassBuneman", spec := "classBuneman", unfollowed := true, recurses := true, named := ["math/bits.deBruijn32tab", "math/bits.deBruijn64tab"], apart := false, laid := [("math/bits.deBruijn32tab", laid_math_bits_deBruijn32tab), ("math/bits.deBruijn64tab", laid_math_bits_deBruijn64tab)] }
def ClassBunemanSaid : Prop := classBunemanRow.holds Tryz.pinned (OpenSpec.ofChange classBunemanSpec)

/-- ITS FALSE NEIGHBOUR: 'it returns false'. Refute it at one input. -/
def classBunemanWrong : ChangeSpec := { name := "classBuneman", fn := fun _ => fun
  | [d] => { results := [.lit (.bool false)], args := [d] }
  | _ => none }
def ClassBunemanWrongFalsely : Prop := classBunemanRow.holds Tryz.pinned (OpenSpec.ofChange classBunemanWrong)

/-- 'headwordlaw05.ClassFilled': WHATEVER THE INPUT: true; the input reads as it did. -/
def classFilledSpec : ChangeSpec := { name := "classFilled", fn := fun _ => fun
  | [d] => { results := [.lit (.bool true)], args := [d] }
  | _ => none }
def classFilledRow : OpenClaim := { program := "ytdnmhlfjafjkbaagreatdoor", sum := "2fc7deee541f3cf37c4eb6f7dc73e5e5e24fcf741c4421a2d3b77788b0dc4e82", func := "headword/headwordlaw05.ClassFilled", spec := "classFilled", unfollowed := true, recurses := true, named := ["math/bits.deBruijn32tab", "math/bits.deBruijn64tab"], apart := false, laid := [("math/bits.deBruijn32tab", laid_math_bits_deBruijn32tab), ("math/bits.deBruijn64tab", laid_math_bits_deBruijn64tab)] }
def ClassFilledSaid : Prop := classFilledRow.holds Tryz.pinned (OpenSpec.ofChange classFilledSpec)

/-- ITS FALSE NEIGHBOUR: 'it returns false'. Refute it at one input. -/
def classFilledWrong : ChangeSpec := { name := "classFilled", fn := fun _ => fun
  | [d] => { results := [.lit (.bool false)], args := [d] }
  | _ => none }
def ClassFilledWrongFalsely : Prop := classFilledRow.holds Tryz.pinned (OpenSpec.ofChange classFilledWrong)

/-- 'headwordlaw05.ClassPairs': WHATEVER THE INPUT: true; the input reads as it did. -/
def classPairsSpec : ChangeSpec := { name := "classPairs", fn := fun _ => fun
  | [d] => { results := [.lit (.bool true)], args := [d] }
  | _ => none }
def classPairsRow : OpenClaim := { program := "ytdnmhlfjafjkbaagreatdoor", sum := "2fc7deee541f3cf37c4eb6f7dc73e5e5e24fcf741c4421a2d3b77788b0dc4e82", func := "headword/headwordlaw05.ClassPairs", spec := "classPairs", unfollowed := true, recurses := true, named := ["math/bits.deBruijn32tab", "math/bits.deBruijn64tab"], apart := false, laid := [("math/bits.deBruijn32tab", laid_math_bits_deBruijn32tab), ("math/bits.deBruijn64tab", laid_math_bits_deBruijn64tab)] }
def ClassPairsSaid : Prop := classPairsRow.holds Tryz.pinned (OpenSpec.ofChange classPairsSpec)

/-- ITS FALSE NEIGHBOUR: 'it returns false'. Refute it at one input. -/
def classPairsWrong : ChangeSpec := { name := "classPairs", fn := fun _ => fun
  | [d] => { results := [.lit (.bool false)], args := [d] }
  | _ => none }
def ClassPairsWrongFalsely : Prop := classPairsRow.holds Tryz.pinned (OpenSpec.ofChange classPairsWrong)

/-- 'headwordlaw05.ClassBack': WHATEVER THE INPUT: true; the input reads as it did. -/
def classBackSpec : ChangeSpec := { name := "classBack", fn := fun _ => fun
  | [d1, d2, d3] => { results := [.lit (.bool true)], args := [d1, d2, d3] }
  | _ => none }
def classBackRow : OpenClaim := { program := "ytdnmhlfjafjkbaagreatdoor", sum := "2fc7deee541f3cf37c4eb6f7dc73e5e5e24fcf741c4421a2d3b77788b0dc4e82", func := "headword/headwordlaw05.ClassBack", spec := "classBack", unfollowed := true, recurses := true, named := ["math/bits.deBruijn32tab", "math/bits.deBruijn64tab"], apart := false, laid := [("math/bits.deBruijn32tab", laid_math_bits_deBruijn32tab), ("math/bits.deBruijn64tab", laid_math_bits_deBruijn64tab)] }
def ClassBackSaid : Prop := classBackRow.holds Tryz.pinned (OpenSpec.ofChange classBackSpec)

/-- ITS FALSE NEIGHBOUR: 'it returns false'. Refute it at one input. -/
def classBackWrong : ChangeSpec := { name := "classBack", fn := fun _ => fun
  | [d1, d2, d3] => { results := [.lit (.bool false)], args := [d1, d2, d3] }
  | _ => none }
def ClassBackWrongFalsely : Prop := classBackRow.holds Tryz.pinned (OpenSpec.ofChange classBackWrong)

/-- 'headwordlaw05.ClassWays': WHATEVER THE INPUT: true; the input reads as it did. -/
def classWaysSpec : ChangeSpec := { name := "classWays", fn := fun _ => fun
  | [d1, d2] => { results := [.lit (.bool true)], args := [d1, d2] }
  | _ => none }
def classWaysRow : OpenClaim := { program := "ytdnmhlfjafjkbaagreatdoor", sum := "2fc7deee541f3cf37c4eb6f7dc73e5e5e24fcf741c4421a2d3b77788b0dc4e82", func := "headword/headwordlaw05.ClassWays", spec := "classWays", unfollowed := true, recurses := true, named := ["math/bits.deBruijn32tab", "math/bits.deBruijn64tab"], apart := false, laid := [("math/bits.deBruijn32tab", laid_math_bits_deBruijn32tab), ("math/bits.deBruijn64tab", laid_math_bits_deBruijn64tab)] }
def ClassWaysSaid : Prop := classWaysRow.holds Tryz.pinned (OpenSpec.ofChange classWaysSpec)

/-- ITS FALSE NEIGHBOUR: 'it returns false'. Refute it at one input. -/
def classWaysWrong : ChangeSpec := { name := "classWays", fn := fun _ => fun
  | [d1, d2] => { results := [.lit (.bool false)], args := [d1, d2] }
  | _ => none }
def ClassWaysWrongFalsely : Prop := classWaysRow.holds Tryz.pinned (OpenSpec.ofChange classWaysWrong)

/-- 'headwordlaw05.ClassNamed': WHATEVER THE INPUT: true; the input reads as it did. -/
def classNamedSpec : ChangeSpec := { name := "classNamed", fn := fun _ => fun
  | [d1, d2, d3] => { results := [.lit (.bool true)], args := [d1, d2, d3] }
  | _ => none }
def classNamedRow : OpenClaim := { program := "ytdnmhlfjafjkbaagreatdoor", sum := "2fc7deee541f3cf37c4eb6f7dc73e5e5e24fcf741c4421a2d3b77788b0dc4e82", func := "headword/headwordlaw05.ClassNamed", spec := "classNamed", unfollowed := true, recurses := true, named := ["math/bits.deBruijn32tab", "math/bits.deBruijn64tab"], apart := false, laid := [("math/bits.deBruijn32tab", laid_math_bits_deBruijn32tab), ("math/bits.deBruijn64tab", laid_math_bits_deBruijn64tab)] }
def ClassNamedSaid : Prop := classNamedRow.holds Tryz.pinned (OpenSpec.ofChange classNamedSpec)

/-- ITS FALSE NEIGHBOUR: 'it returns false'. Refute it at one input. -/
def classNamedWrong : ChangeSpec := { name := "classNamed", fn := fun _ => fun
  | [d1, d2, d3] => { results := [.lit (.bool false)], args := [d1, d2, d3] }
  | _ => none }
def ClassNamedWrongFalsely : Prop := classNamedRow.holds Tryz.pinned (OpenSpec.ofChange classNamedWrong)

/- THE SECOND FORM. 'bulk': how many values and letters a reading holds, each counted each time it is reached (what is shared counts as often as it is met; a slice's spare places count too). A statement '..UptoSaid' is the law's where the arguments, and the package variables that the reading takes, are together of bulk at most 1048576: NARROWER than '..Said'. Prove '..Said' where nothing that the law and all that it calls make is longer than what came in: it says more and counts as full. Else prove '..UptoSaid'. A law counts once. -/
mutual
def uptoBulk {H : Type} : DataW H → Nat
  | .lit (.string bytes) => bytes.length + 1
  | .lit _ => 1
  | .nil => 1
  | .ptr d => uptoBulk d + 1
  | .slice elems spare => uptoBulkAll elems + uptoBulkAll spare + 1
  | .agg parts => uptoBulkAll parts + 1
  | .iface _ d => uptoBulk d + 1
  | .map entries => uptoBulkEntries entries + 1
  | .held _ => 1
def uptoBulkAll {H : Type} : List (DataW H) → Nat
  | [] => 0
  | d :: r => uptoBulk d + uptoBulkAll r
def uptoBulkEntries {H : Type} : List (Lit × DataW H) → Nat
  | [] => 0
  | x :: r => uptoBulkEntry x + uptoBulkEntries r
def uptoBulkEntry {H : Type} : Lit × DataW H → Nat
  | (.string bytes, d) => bytes.length + uptoBulk d + 1
  | (_, d) => uptoBulk d + 1
 end
def uptoSmall : (H : Type) → List (DataW H) → Bool := fun _ ds => decide (uptoBulkAll ds ≤ 1048576)
def OpenSpec.upto (s : _root_.Go.ChangeSpec) : _root_.Go.OpenSpec := { _root_.Go.OpenSpec.ofChange s with cond := some uptoSmall }

/-- 'headwordlaw05.ClassClashes', WHERE WHAT IT READS IS OF BULK AT MOST 1048576: true; the input reads as it did. -/
def classClashesUptoRow : OpenClaim := { program := "ytdnmhlfjafjkbaagreatdoor", sum := "2fc7deee541f3cf37c4eb6f7dc73e5e5e24fcf741c4421a2d3b77788b0dc4e82", func := "headword/headwordlaw05.ClassClashes", spec := "classClashes", unfollowed := true, recurses := true, named := ["math/bits.deBruijn32tab", "math/bits.deBruijn64tab"], apart := false, laid := [("math/bits.deBruijn32tab", laid_math_bits_deBruijn32tab), ("math/bits.deBruijn64tab", laid_math_bits_deBruijn64tab)], narrowed := true }
def ClassClashesUptoSaid : Prop := classClashesUptoRow.holds Tryz.pinned (OpenSpec.upto classClashesSpec)

/-- 'headwordlaw05.ClassTrees', WHERE WHAT IT READS IS OF BULK AT MOST 1048576: true; the input reads as it did. -/
def classTreesUptoRow : OpenClaim := { program := "ytdnmhlfjafjkbaagreatdoor", sum := "2fc7deee541f3cf37c4eb6f7dc73e5e5e24fcf741c4421a2d3b77788b0dc4e82", func := "headword/headwordlaw05.ClassTrees", spec := "classTrees", unfollowed := true, recurses := true, named := ["math/bits.deBruijn32tab", "math/bits.deBruijn64tab"], apart := false, laid := [("math/bits.deBruijn32tab", laid_math_bits_deBruijn32tab), ("math/bits.deBruijn64tab", laid_math_bits_deBruijn64tab)], narrowed := true }
def ClassTreesUptoSaid : Prop := classTreesUptoRow.holds Tryz.pinned (OpenSpec.upto classTreesSpec)

/-- 'headwordlaw05.ClassFar', WHERE WHAT IT READS IS OF BULK AT MOST 1048576: true; the input reads as it did. -/
def classFarUptoRow : OpenClaim := { program := "ytdnmhlfjafjkbaagreatdoor", sum := "2fc7deee541f3cf37c4eb6f7dc73e5e5e24fcf741c4421a2d3b77788b0dc4e82", func := "headword/headwordlaw05.ClassFar", spec := "classFar", unfollowed := true, recurses := true, named := ["math/bits.deBruijn32tab", "math/bits.deBruijn64tab"], apart := false, laid := [("math/bits.deBruijn32tab", laid_math_bits_deBruijn32tab), ("math/bits.deBruijn64tab", laid_math_bits_deBruijn64tab)], narrowed := true }
def ClassFarUptoSaid : Prop := classFarUptoRow.holds Tryz.pinned (OpenSpec.upto classFarSpec)

/-- 'headwordlaw05.ClassMost', WHERE WHAT IT READS IS OF BULK AT MOST 1048576: true; the input reads as it did. -/
def classMostUptoRow : OpenClaim := { program := "ytdnmhlfjafjkbaagreatdoor", sum := "2fc7deee541f3cf37c4eb6f7dc73e5e5e24fcf741c4421a2d3b77788b0dc4e82", func := "headword/headwordlaw05.ClassMost", spec := "classMost", unfollowed := true, recurses := true, named := ["math/bits.deBruijn32tab", "math/bits.deBruijn64tab"], apart := false, laid := [("math/bits.deBruijn32tab", laid_math_bits_deBruijn32tab), ("math/bits.deBruijn64tab", laid_math_bits_deBruijn64tab)], narrowed := true }
def ClassMostUptoSaid : Prop := classMostUptoRow.holds Tryz.pinned (OpenSpec.upto classMostSpec)

/-- 'headwordlaw05.ClassSides', WHERE WHAT IT READS IS OF BULK AT MOST 1048576: true; the input reads as it did. -/
def classSidesUptoRow : OpenClaim := { program := "ytdnmhlfjafjkbaagreatdoor", sum := "2fc7deee541f3cf37c4eb6f7dc73e5e5e24fcf741c4421a2d3b77788b0dc4e82", func := "headword/headwordlaw05.ClassSides", spec := "classSides", unfollowed := true, recurses := true, named := ["math/bits.deBruijn32tab", "math/bits.deBruijn64tab"], apart := false, laid := [("math/bits.deBruijn32tab", laid_math_bits_deBruijn32tab), ("math/bits.deBruijn64tab", laid_math_bits_deBruijn64tab)], narrowed := true }
def ClassSidesUptoSaid : Prop := classSidesUptoRow.holds Tryz.pinned (OpenSpec.upto classSidesSpec)

/-- 'headwordlaw05.ClassBuneman', WHERE WHAT IT READS IS OF BULK AT MOST 1048576: true; the input reads as it did. -/
def classBunemanUptoRow : OpenClaim := { program := "ytdnmhlfjafjkbaagreatdoor", sum := "2fc7deee541f3cf37c4eb6f7dc73e5e5e24fcf741c4421a2d3b77788b0dc4e82", func := "headword/headwordlaw05.ClassBuneman", spec := "classBuneman", unfollowed := true, recurses := true, named := ["math/bits.deBruijn32tab", "math/bits.deBruijn64tab"], apart := false, laid := [("math/bits.deBruijn32tab", laid_math_bits_deBruijn32tab), ("math/bits.deBruijn64tab", laid_math_bits_deBruijn64tab)], narrowed := true }
def ClassBunemanUptoSaid : Prop := classBunemanUptoRow.holds Tryz.pinned (OpenSpec.upto classBunemanSpec)

/-- 'headwordlaw05.ClassFilled', WHERE WHAT IT READS IS OF BULK AT MOST 1048576: true; the input reads as it did. -/
def classFilledUptoRow : OpenClaim := { program := "ytdnmhlfjafjkbaagreatdoor", sum := "2fc7deee541f3cf37c4eb6f7dc73e5e5e24fcf741c4421a2d3b77788b0dc4e82", func := "headword/headwordlaw05.ClassFilled", spec := "classFilled", unfollowed := true, recurses := true, named := ["math/bits.deBruijn32tab", "math/bits.deBruijn64tab"], apart := false, laid := [("math/bits.deBruijn32tab", laid_math_bits_deBruijn32tab), ("math/bits.deBruijn64tab", laid_math_bits_deBruijn64tab)], narrowed := true }
def ClassFilledUptoSaid : Prop := classFilledUptoRow.holds Tryz.pinned (OpenSpec.upto classFilledSpec)

/-- 'headwordlaw05.ClassPairs', WHERE WHAT IT READS IS OF BULK AT MOST 1048576: true; the input reads as it did. -/
def classPairsUptoRow : OpenClaim := { program := "ytdnmhlfjafjkbaagreatdoor", sum := "2fc7deee541f3cf37c4eb6f7dc73e5e5e24fcf741c4421a2d3b77788b0dc4e82", func := "headword/headwordlaw05.ClassPairs", spec := "classPairs", unfollowed := true, recurses := true, named := ["math/bits.deBruijn32tab", "math/bits.deBruijn64tab"], apart := false, laid := [("math/bits.deBruijn32tab", laid_math_bits_deBruijn32tab), ("math/bits.deBruijn64tab", laid_math_bits_deBruijn64tab)], narrowed := true }
def ClassPairsUptoSaid : Prop := classPairsUptoRow.holds Tryz.pinned (OpenSpec.upto classPairsSpec)

/-- 'headwordlaw05.ClassBack', WHERE WHAT IT READS IS OF BULK AT MOST 1048576: true; the input reads as it did. -/
def classBackUptoRow : OpenClaim := { program := "ytdnmhlfjafjkbaagreatdoor", sum := "2fc7deee541f3cf37c4eb6f7dc73e5e5e24fcf741c4421a2d3b77788b0dc4e82", func := "headword/headwordlaw05.ClassBack", spec := "classBack", unfollowed := true, recurses := true, named := ["math/bits.deBruijn32tab", "math/bits.deBruijn64tab"], apart := false, laid := [("math/bits.deBruijn32tab", laid_math_bits_deBruijn32tab), ("math/bits.deBruijn64tab", laid_math_bits_deBruijn64tab)], narrowed := true }
def ClassBackUptoSaid : Prop := classBackUptoRow.holds Tryz.pinned (OpenSpec.upto classBackSpec)

/-- 'headwordlaw05.ClassWays', WHERE WHAT IT READS IS OF BULK AT MOST 1048576: true; the input reads as it did. -/
def classWaysUptoRow : OpenClaim := { program := "ytdnmhlfjafjkbaagreatdoor", sum := "2fc7deee541f3cf37c4eb6f7dc73e5e5e24fcf741c4421a2d3b77788b0dc4e82", func := "headword/headwordlaw05.ClassWays", spec := "classWays", unfollowed := true, recurses := true, named := ["math/bits.deBruijn32tab", "math/bits.deBruijn64tab"], apart := false, laid := [("math/bits.deBruijn32tab", laid_math_bits_deBruijn32tab), ("math/bits.deBruijn64tab", laid_math_bits_deBruijn64tab)], narrowed := true }
def ClassWaysUptoSaid : Prop := classWaysUptoRow.holds Tryz.pinned (OpenSpec.upto classWaysSpec)

/-- 'headwordlaw05.ClassNamed', WHERE WHAT IT READS IS OF BULK AT MOST 1048576: true; the input reads as it did. -/
def classNamedUptoRow : OpenClaim := { program := "ytdnmhlfjafjkbaagreatdoor", sum := "2fc7deee541f3cf37c4eb6f7dc73e5e5e24fcf741c4421a2d3b77788b0dc4e82", func := "headword/headwordlaw05.ClassNamed", spec := "classNamed", unfollowed := true, recurses := true, named := ["math/bits.deBruijn32tab", "math/bits.deBruijn64tab"], apart := false, laid := [("math/bits.deBruijn32tab", laid_math_bits_deBruijn32tab), ("math/bits.deBruijn64tab", laid_math_bits_deBruijn64tab)], narrowed := true }
def ClassNamedUptoSaid : Prop := classNamedUptoRow.holds Tryz.pinned (OpenSpec.upto classNamedSpec)

end Rows
end Go.Proofs.YtdnmhlfjafjkbaaGreatDoor
