/-
  No cell of these rows narrows 'for every input' (looked for: loops, veiled, ifaces, maps, wideKeys, modest, calm, conditions, laid).
  DERIVED. THE GIVEN ROWS OF THIS SEAT. 14 by the template 'for every input the law returns true; each argument reads behind the call as it read before'; 0 by the template 'total and deterministic' (their statements: YtiifibgadipalaaTotals.lean).
  GIVEN WITH THE SEED: the statements are not yours to turn. If you find one false, say at which input.
  Laid BY PROGRAM, IN A SANDBOX (cutbox-rows.mjs): the forced cells as the released guide's own fill.sh prints them over the translation c00bb90b978182a7… (all of the seat's roots in one cut). By AI agents, Wed Nov 11 2026. No macro, syntax, notation, axiom, sorry.
-/
import Derived.Test.YtiifibgadipalaaChecked
import GoSem.Claim
import GoSem.ClaimJoined
import GoSem.ClaimMapViews
import Derived.JoinedTies
import Derived.KernelRfl
namespace Go.Proofs.Ytiifibgadipalaa
/- THE CELL 'sum', in the pinned program and in every row, IS THE sha256 OF THE DUMP (.gsa) THAT YtiifibgadipalaaProg.lean LOADS. Nothing in Lean hashes anything: it is a label: what it is worth is what the hold of that sum in a sandbox is worth. -/
noncomputable def Try.pinned : Pinned := { name := "ytiifibgadipalaa", sum := "c00bb90b978182a7be1a81b24d0adfce664640d0750b8e417223bcdbce1de0db", checked := Try.checked }
namespace Rows
def none {H : Type} : Left H := { results := [], args := [] }

/-- 'headwordlaw10.VolumeHolds': WHATEVER THE INPUT: true; the input reads as it did. -/
def volumeHoldsSpec : ChangeSpec := { name := "volumeHolds", fn := fun _ => fun
  | [d1, d2, d3] => { results := [.lit (.bool true)], args := [d1, d2, d3] }
  | _ => none }
def volumeHoldsRow : OpenClaim := { program := "ytiifibgadipalaa", sum := "c00bb90b978182a7be1a81b24d0adfce664640d0750b8e417223bcdbce1de0db", func := "headword/headwordlaw10.VolumeHolds", spec := "volumeHolds", unfollowed := true, recurses := true, apart := false }
def VolumeHoldsSaid : Prop := volumeHoldsRow.holds Try.pinned (OpenSpec.ofChange volumeHoldsSpec)

/-- ITS FALSE NEIGHBOUR: 'it returns false'. Refute it at one input. -/
def volumeHoldsWrong : ChangeSpec := { name := "volumeHolds", fn := fun _ => fun
  | [d1, d2, d3] => { results := [.lit (.bool false)], args := [d1, d2, d3] }
  | _ => none }
def VolumeHoldsWrongFalsely : Prop := volumeHoldsRow.holds Try.pinned (OpenSpec.ofChange volumeHoldsWrong)

/-- 'headwordlaw10.VolumeFewest': WHATEVER THE INPUT: true; the input reads as it did. -/
def volumeFewestSpec : ChangeSpec := { name := "volumeFewest", fn := fun _ => fun
  | [d1, d2] => { results := [.lit (.bool true)], args := [d1, d2] }
  | _ => none }
def volumeFewestRow : OpenClaim := { program := "ytiifibgadipalaa", sum := "c00bb90b978182a7be1a81b24d0adfce664640d0750b8e417223bcdbce1de0db", func := "headword/headwordlaw10.VolumeFewest", spec := "volumeFewest", unfollowed := true, recurses := true, apart := false }
def VolumeFewestSaid : Prop := volumeFewestRow.holds Try.pinned (OpenSpec.ofChange volumeFewestSpec)

/-- ITS FALSE NEIGHBOUR: 'it returns false'. Refute it at one input. -/
def volumeFewestWrong : ChangeSpec := { name := "volumeFewest", fn := fun _ => fun
  | [d1, d2] => { results := [.lit (.bool false)], args := [d1, d2] }
  | _ => none }
def VolumeFewestWrongFalsely : Prop := volumeFewestRow.holds Try.pinned (OpenSpec.ofChange volumeFewestWrong)

/-- 'headwordlaw10.VolumeRows': WHATEVER THE INPUT: true; the input reads as it did. -/
def volumeRowsSpec : ChangeSpec := { name := "volumeRows", fn := fun _ => fun
  | [d1, d2, d3] => { results := [.lit (.bool true)], args := [d1, d2, d3] }
  | _ => none }
def volumeRowsRow : OpenClaim := { program := "ytiifibgadipalaa", sum := "c00bb90b978182a7be1a81b24d0adfce664640d0750b8e417223bcdbce1de0db", func := "headword/headwordlaw10.VolumeRows", spec := "volumeRows", unfollowed := true, recurses := true, apart := false }
def VolumeRowsSaid : Prop := volumeRowsRow.holds Try.pinned (OpenSpec.ofChange volumeRowsSpec)

/-- ITS FALSE NEIGHBOUR: 'it returns false'. Refute it at one input. -/
def volumeRowsWrong : ChangeSpec := { name := "volumeRows", fn := fun _ => fun
  | [d1, d2, d3] => { results := [.lit (.bool false)], args := [d1, d2, d3] }
  | _ => none }
def VolumeRowsWrongFalsely : Prop := volumeRowsRow.holds Try.pinned (OpenSpec.ofChange volumeRowsWrong)

/-- 'headwordlaw10.VolumeCuts': WHATEVER THE INPUT: true; the input reads as it did. -/
def volumeCutsSpec : ChangeSpec := { name := "volumeCuts", fn := fun _ => fun
  | [d] => { results := [.lit (.bool true)], args := [d] }
  | _ => none }
def volumeCutsRow : OpenClaim := { program := "ytiifibgadipalaa", sum := "c00bb90b978182a7be1a81b24d0adfce664640d0750b8e417223bcdbce1de0db", func := "headword/headwordlaw10.VolumeCuts", spec := "volumeCuts", unfollowed := true, recurses := true, apart := false }
def VolumeCutsSaid : Prop := volumeCutsRow.holds Try.pinned (OpenSpec.ofChange volumeCutsSpec)

/-- ITS FALSE NEIGHBOUR: 'it returns false'. Refute it at one input. -/
def volumeCutsWrong : ChangeSpec := { name := "volumeCuts", fn := fun _ => fun
  | [d] => { results := [.lit (.bool false)], args := [d] }
  | _ => none }
def VolumeCutsWrongFalsely : Prop := volumeCutsRow.holds Try.pinned (OpenSpec.ofChange volumeCutsWrong)

/-- 'headwordlaw10.VolumeStretches': WHATEVER THE INPUT: true; the input reads as it did. -/
def volumeStretchesSpec : ChangeSpec := { name := "volumeStretches", fn := fun _ => fun
  | [d] => { results := [.lit (.bool true)], args := [d] }
  | _ => none }
def volumeStretchesRow : OpenClaim := { program := "ytiifibgadipalaa", sum := "c00bb90b978182a7be1a81b24d0adfce664640d0750b8e417223bcdbce1de0db", func := "headword/headwordlaw10.VolumeStretches", spec := "volumeStretches", unfollowed := true, recurses := true, apart := false }
def VolumeStretchesSaid : Prop := volumeStretchesRow.holds Try.pinned (OpenSpec.ofChange volumeStretchesSpec)

/-- ITS FALSE NEIGHBOUR: 'it returns false'. Refute it at one input. -/
def volumeStretchesWrong : ChangeSpec := { name := "volumeStretches", fn := fun _ => fun
  | [d] => { results := [.lit (.bool false)], args := [d] }
  | _ => none }
def VolumeStretchesWrongFalsely : Prop := volumeStretchesRow.holds Try.pinned (OpenSpec.ofChange volumeStretchesWrong)

/-- 'headwordlaw10.VolumeLevel': WHATEVER THE INPUT: true; the input reads as it did. -/
def volumeLevelSpec : ChangeSpec := { name := "volumeLevel", fn := fun _ => fun
  | [d] => { results := [.lit (.bool true)], args := [d] }
  | _ => none }
def volumeLevelRow : OpenClaim := { program := "ytiifibgadipalaa", sum := "c00bb90b978182a7be1a81b24d0adfce664640d0750b8e417223bcdbce1de0db", func := "headword/headwordlaw10.VolumeLevel", spec := "volumeLevel", unfollowed := true, recurses := true, apart := false }
def VolumeLevelSaid : Prop := volumeLevelRow.holds Try.pinned (OpenSpec.ofChange volumeLevelSpec)

/-- ITS FALSE NEIGHBOUR: 'it returns false'. Refute it at one input. -/
def volumeLevelWrong : ChangeSpec := { name := "volumeLevel", fn := fun _ => fun
  | [d] => { results := [.lit (.bool false)], args := [d] }
  | _ => none }
def VolumeLevelWrongFalsely : Prop := volumeLevelRow.holds Try.pinned (OpenSpec.ofChange volumeLevelWrong)

/-- 'headwordlaw10.VolumeSafe': WHATEVER THE INPUT: true; the input reads as it did. -/
def volumeSafeSpec : ChangeSpec := { name := "volumeSafe", fn := fun _ => fun
  | [d] => { results := [.lit (.bool true)], args := [d] }
  | _ => none }
def volumeSafeRow : OpenClaim := { program := "ytiifibgadipalaa", sum := "c00bb90b978182a7be1a81b24d0adfce664640d0750b8e417223bcdbce1de0db", func := "headword/headwordlaw10.VolumeSafe", spec := "volumeSafe", unfollowed := true, recurses := true, apart := false }
def VolumeSafeSaid : Prop := volumeSafeRow.holds Try.pinned (OpenSpec.ofChange volumeSafeSpec)

/-- ITS FALSE NEIGHBOUR: 'it returns false'. Refute it at one input. -/
def volumeSafeWrong : ChangeSpec := { name := "volumeSafe", fn := fun _ => fun
  | [d] => { results := [.lit (.bool false)], args := [d] }
  | _ => none }
def VolumeSafeWrongFalsely : Prop := volumeSafeRow.holds Try.pinned (OpenSpec.ofChange volumeSafeWrong)

/-- 'headwordlaw10.VolumeBursts': WHATEVER THE INPUT: true; the input reads as it did. -/
def volumeBurstsSpec : ChangeSpec := { name := "volumeBursts", fn := fun _ => fun
  | [d1, d2] => { results := [.lit (.bool true)], args := [d1, d2] }
  | _ => none }
def volumeBurstsRow : OpenClaim := { program := "ytiifibgadipalaa", sum := "c00bb90b978182a7be1a81b24d0adfce664640d0750b8e417223bcdbce1de0db", func := "headword/headwordlaw10.VolumeBursts", spec := "volumeBursts", unfollowed := true, recurses := true, apart := false }
def VolumeBurstsSaid : Prop := volumeBurstsRow.holds Try.pinned (OpenSpec.ofChange volumeBurstsSpec)

/-- ITS FALSE NEIGHBOUR: 'it returns false'. Refute it at one input. -/
def volumeBurstsWrong : ChangeSpec := { name := "volumeBursts", fn := fun _ => fun
  | [d1, d2] => { results := [.lit (.bool false)], args := [d1, d2] }
  | _ => none }
def VolumeBurstsWrongFalsely : Prop := volumeBurstsRow.holds Try.pinned (OpenSpec.ofChange volumeBurstsWrong)

/-- 'headwordlaw10.VolumeLengths': WHATEVER THE INPUT: true; the input reads as it did. -/
def volumeLengthsSpec : ChangeSpec := { name := "volumeLengths", fn := fun _ => fun
  | [d1, d2] => { results := [.lit (.bool true)], args := [d1, d2] }
  | _ => none }
def volumeLengthsRow : OpenClaim := { program := "ytiifibgadipalaa", sum := "c00bb90b978182a7be1a81b24d0adfce664640d0750b8e417223bcdbce1de0db", func := "headword/headwordlaw10.VolumeLengths", spec := "volumeLengths", unfollowed := true, recurses := true, apart := false }
def VolumeLengthsSaid : Prop := volumeLengthsRow.holds Try.pinned (OpenSpec.ofChange volumeLengthsSpec)

/-- ITS FALSE NEIGHBOUR: 'it returns false'. Refute it at one input. -/
def volumeLengthsWrong : ChangeSpec := { name := "volumeLengths", fn := fun _ => fun
  | [d1, d2] => { results := [.lit (.bool false)], args := [d1, d2] }
  | _ => none }
def VolumeLengthsWrongFalsely : Prop := volumeLengthsRow.holds Try.pinned (OpenSpec.ofChange volumeLengthsWrong)

/-- 'headwordlaw10.VolumeKnown': WHATEVER THE INPUT: true; the input reads as it did. -/
def volumeKnownSpec : ChangeSpec := { name := "volumeKnown", fn := fun _ => fun
  | [] => { results := [.lit (.bool true)], args := [] }
  | _ => none }
def volumeKnownRow : OpenClaim := { program := "ytiifibgadipalaa", sum := "c00bb90b978182a7be1a81b24d0adfce664640d0750b8e417223bcdbce1de0db", func := "headword/headwordlaw10.VolumeKnown", spec := "volumeKnown", unfollowed := true, recurses := true, apart := false }
def VolumeKnownSaid : Prop := volumeKnownRow.holds Try.pinned (OpenSpec.ofChange volumeKnownSpec)

/-- ITS FALSE NEIGHBOUR: 'it returns false'. Refute it at one input. -/
def volumeKnownWrong : ChangeSpec := { name := "volumeKnown", fn := fun _ => fun
  | [] => { results := [.lit (.bool false)], args := [] }
  | _ => none }
def VolumeKnownWrongFalsely : Prop := volumeKnownRow.holds Try.pinned (OpenSpec.ofChange volumeKnownWrong)

/-- 'headwordlaw10.VolumeRow': WHATEVER THE INPUT: true; the input reads as it did. -/
def volumeRowSpec : ChangeSpec := { name := "volumeRow", fn := fun _ => fun
  | [d] => { results := [.lit (.bool true)], args := [d] }
  | _ => none }
def volumeRowRow : OpenClaim := { program := "ytiifibgadipalaa", sum := "c00bb90b978182a7be1a81b24d0adfce664640d0750b8e417223bcdbce1de0db", func := "headword/headwordlaw10.VolumeRow", spec := "volumeRow", unfollowed := true, recurses := true, apart := false }
def VolumeRowSaid : Prop := volumeRowRow.holds Try.pinned (OpenSpec.ofChange volumeRowSpec)

/-- ITS FALSE NEIGHBOUR: 'it returns false'. Refute it at one input. -/
def volumeRowWrong : ChangeSpec := { name := "volumeRow", fn := fun _ => fun
  | [d] => { results := [.lit (.bool false)], args := [d] }
  | _ => none }
def VolumeRowWrongFalsely : Prop := volumeRowRow.holds Try.pinned (OpenSpec.ofChange volumeRowWrong)

/-- 'headwordlaw10.VolumeMore': WHATEVER THE INPUT: true; the input reads as it did. -/
def volumeMoreSpec : ChangeSpec := { name := "volumeMore", fn := fun _ => fun
  | [d1, d2] => { results := [.lit (.bool true)], args := [d1, d2] }
  | _ => none }
def volumeMoreRow : OpenClaim := { program := "ytiifibgadipalaa", sum := "c00bb90b978182a7be1a81b24d0adfce664640d0750b8e417223bcdbce1de0db", func := "headword/headwordlaw10.VolumeMore", spec := "volumeMore", unfollowed := true, recurses := true, apart := false }
def VolumeMoreSaid : Prop := volumeMoreRow.holds Try.pinned (OpenSpec.ofChange volumeMoreSpec)

/-- ITS FALSE NEIGHBOUR: 'it returns false'. Refute it at one input. -/
def volumeMoreWrong : ChangeSpec := { name := "volumeMore", fn := fun _ => fun
  | [d1, d2] => { results := [.lit (.bool false)], args := [d1, d2] }
  | _ => none }
def VolumeMoreWrongFalsely : Prop := volumeMoreRow.holds Try.pinned (OpenSpec.ofChange volumeMoreWrong)

/-- 'headwordlaw10.VolumeTurned': WHATEVER THE INPUT: true; the input reads as it did. -/
def volumeTurnedSpec : ChangeSpec := { name := "volumeTurned", fn := fun _ => fun
  | [d1, d2] => { results := [.lit (.bool true)], args := [d1, d2] }
  | _ => none }
def volumeTurnedRow : OpenClaim := { program := "ytiifibgadipalaa", sum := "c00bb90b978182a7be1a81b24d0adfce664640d0750b8e417223bcdbce1de0db", func := "headword/headwordlaw10.VolumeTurned", spec := "volumeTurned", unfollowed := true, recurses := true, apart := false }
def VolumeTurnedSaid : Prop := volumeTurnedRow.holds Try.pinned (OpenSpec.ofChange volumeTurnedSpec)

/-- ITS FALSE NEIGHBOUR: 'it returns false'. Refute it at one input. -/
def volumeTurnedWrong : ChangeSpec := { name := "volumeTurned", fn := fun _ => fun
  | [d1, d2] => { results := [.lit (.bool false)], args := [d1, d2] }
  | _ => none }
def VolumeTurnedWrongFalsely : Prop := volumeTurnedRow.holds Try.pinned (OpenSpec.ofChange volumeTurnedWrong)

/-- 'headwordlaw10.VolumeShown': WHATEVER THE INPUT: true; the input reads as it did. -/
def volumeShownSpec : ChangeSpec := { name := "volumeShown", fn := fun _ => fun
  | [d1, d2, d3, d4] => { results := [.lit (.bool true)], args := [d1, d2, d3, d4] }
  | _ => none }
def volumeShownRow : OpenClaim := { program := "ytiifibgadipalaa", sum := "c00bb90b978182a7be1a81b24d0adfce664640d0750b8e417223bcdbce1de0db", func := "headword/headwordlaw10.VolumeShown", spec := "volumeShown", unfollowed := true, recurses := true, apart := false }
def VolumeShownSaid : Prop := volumeShownRow.holds Try.pinned (OpenSpec.ofChange volumeShownSpec)

/-- ITS FALSE NEIGHBOUR: 'it returns false'. Refute it at one input. -/
def volumeShownWrong : ChangeSpec := { name := "volumeShown", fn := fun _ => fun
  | [d1, d2, d3, d4] => { results := [.lit (.bool false)], args := [d1, d2, d3, d4] }
  | _ => none }
def VolumeShownWrongFalsely : Prop := volumeShownRow.holds Try.pinned (OpenSpec.ofChange volumeShownWrong)

/- THE SECOND FORM. 'bulk': how many values and letters a reading holds, each counted each time it is reached (what is shared counts as often as it is met; a slice's spare places count too). A statement '..UptoSaid' is the law's where the arguments, and the package variables that the reading takes, are together of bulk at most 1048576: NARROWER than '..Said'. Prove '..Said' where nothing that the law and all that it calls make is longer than what came in: it says more and counts as full. Else prove '..UptoSaid'. A law counts once. -/
mutual
def uptoBulk {H : Type} : DataW H → Nat
  | .lit (.string bytes) => bytes.length + 1
  | .lit _ => 1
  | .nil => 1
  | .ptr d => uptoBulk d + 1
  | .slice elems spare => uptoBulkAll elems + uptoBulkAll spare + 1
  | .agg parts => uptoBulkAll parts + 1
  | .iface _ d => uptoBulk d + 1
  | .map entries => uptoBulkEntries entries + 1
  | .held _ => 1
def uptoBulkAll {H : Type} : List (DataW H) → Nat
  | [] => 0
  | d :: r => uptoBulk d + uptoBulkAll r
def uptoBulkEntries {H : Type} : List (Lit × DataW H) → Nat
  | [] => 0
  | x :: r => uptoBulkEntry x + uptoBulkEntries r
def uptoBulkEntry {H : Type} : Lit × DataW H → Nat
  | (.string bytes, d) => bytes.length + uptoBulk d + 1
  | (_, d) => uptoBulk d + 1
 end
def uptoSmall : (H : Type) → List (DataW H) → Bool := fun _ ds => decide (uptoBulkAll ds ≤ 1048576)
def OpenSpec.upto (s : _root_.Go.ChangeSpec) : _root_.Go.OpenSpec := { _root_.Go.OpenSpec.ofChange s with cond := some uptoSmall }

/-- 'headwordlaw10.VolumeHolds', WHERE WHAT IT READS IS OF BULK AT MOST 1048576: true; the input reads as it did. -/
def volumeHoldsUptoRow : OpenClaim := { program := "ytiifibgadipalaa", sum := "c00bb90b978182a7be1a81b24d0adfce664640d0750b8e417223bcdbce1de0db", func := "headword/headwordlaw10.VolumeHolds", spec := "volumeHolds", unfollowed := true, recurses := true, apart := false, narrowed := true }
def VolumeHoldsUptoSaid : Prop := volumeHoldsUptoRow.holds Try.pinned (OpenSpec.upto volumeHoldsSpec)

/-- 'headwordlaw10.VolumeFewest', WHERE WHAT IT READS IS OF BULK AT MOST 1048576: true; the input reads as it did. -/
def volumeFewestUptoRow : OpenClaim := { program := "ytiifibgadipalaa", sum := "c00bb90b978182a7be1a81b24d0adfce664640d0750b8e417223bcdbce1de0db", func := "headword/headwordlaw10.VolumeFewest", spec := "volumeFewest", unfollowed := true, recurses := true, apart := false, narrowed := true }
def VolumeFewestUptoSaid : Prop := volumeFewestUptoRow.holds Try.pinned (OpenSpec.upto volumeFewestSpec)

/-- 'headwordlaw10.VolumeRows', WHERE WHAT IT READS IS OF BULK AT MOST 1048576: true; the input reads as it did. -/
def volumeRowsUptoRow : OpenClaim := { program := "ytiifibgadipalaa", sum := "c00bb90b978182a7be1a81b24d0adfce664640d0750b8e417223bcdbce1de0db", func := "headword/headwordlaw10.VolumeRows", spec := "volumeRows", unfollowed := true, recurses := true, apart := false, narrowed := true }
def VolumeRowsUptoSaid : Prop := volumeRowsUptoRow.holds Try.pinned (OpenSpec.upto volumeRowsSpec)

/-- 'headwordlaw10.VolumeCuts', WHERE WHAT IT READS IS OF BULK AT MOST 1048576: true; the input reads as it did. -/
def volumeCutsUptoRow : OpenClaim := { program := "ytiifibgadipalaa", sum := "c00bb90b978182a7be1a81b24d0adfce664640d0750b8e417223bcdbce1de0db", func := "headword/headwordlaw10.VolumeCuts", spec := "volumeCuts", unfollowed := true, recurses := true, apart := false, narrowed := true }
def VolumeCutsUptoSaid : Prop := volumeCutsUptoRow.holds Try.pinned (OpenSpec.upto volumeCutsSpec)

/-- 'headwordlaw10.VolumeStretches', WHERE WHAT IT READS IS OF BULK AT MOST 1048576: true; the input reads as it did. -/
def volumeStretchesUptoRow : OpenClaim := { program := "ytiifibgadipalaa", sum := "c00bb90b978182a7be1a81b24d0adfce664640d0750b8e417223bcdbce1de0db", func := "headword/headwordlaw10.VolumeStretches", spec := "volumeStretches", unfollowed := true, recurses := true, apart := false, narrowed := true }
def VolumeStretchesUptoSaid : Prop := volumeStretchesUptoRow.holds Try.pinned (OpenSpec.upto volumeStretchesSpec)

/-- 'headwordlaw10.VolumeLevel', WHERE WHAT IT READS IS OF BULK AT MOST 1048576: true; the input reads as it did. -/
def volumeLevelUptoRow : OpenClaim := { program := "ytiifibgadipalaa", sum := "c00bb90b978182a7be1a81b24d0adfce664640d0750b8e417223bcdbce1de0db", func := "headword/headwordlaw10.VolumeLevel", spec := "volumeLevel", unfollowed := true, recurses := true, apart := false, narrowed := true }
def VolumeLevelUptoSaid : Prop := volumeLevelUptoRow.holds Try.pinned (OpenSpec.upto volumeLevelSpec)

/-- 'headwordlaw10.VolumeSafe', WHERE WHAT IT READS IS OF BULK AT MOST 1048576: true; the input reads as it did. -/
def volumeSafeUptoRow : OpenClaim := { program := "ytiifibgadipalaa", sum := "c00bb90b978182a7be1a81b24d0adfce664640d0750b8e417223bcdbce1de0db", func := "headword/headwordlaw10.VolumeSafe", spec := "volumeSafe", unfollowed := true, recurses := true, apart := false, narrowed := true }
def VolumeSafeUptoSaid : Prop := volumeSafeUptoRow.holds Try.pinned (OpenSpec.upto volumeSafeSpec)

/-- 'headwordlaw10.VolumeBursts', WHERE WHAT IT READS IS OF BULK AT MOST 1048576: true; the input reads as it did. -/
def volumeBurstsUptoRow : OpenClaim := { program := "ytiifibgadipalaa", sum := "c00bb90b978182a7be1a81b24d0adfce664640d0750b8e417223bcdbce1de0db", func := "headword/headwordlaw10.VolumeBursts", spec := "volumeBursts", unfollowed := true, recurses := true, apart := false, narrowed := true }
def VolumeBurstsUptoSaid : Prop := volumeBurstsUptoRow.holds Try.pinned (OpenSpec.upto volumeBurstsSpec)

/-- 'headwordlaw10.VolumeLengths', WHERE WHAT IT READS IS OF BULK AT MOST 1048576: true; the input reads as it did. -/
def volumeLengthsUptoRow : OpenClaim := { program := "ytiifibgadipalaa", sum := "c00bb90b978182a7be1a81b24d0adfce664640d0750b8e417223bcdbce1de0db", func := "headword/headwordlaw10.VolumeLengths", spec := "volumeLengths", unfollowed := true, recurses := true, apart := false, narrowed := true }
def VolumeLengthsUptoSaid : Prop := volumeLengthsUptoRow.holds Try.pinned (OpenSpec.upto volumeLengthsSpec)

/-- 'headwordlaw10.VolumeKnown', WHERE WHAT IT READS IS OF BULK AT MOST 1048576: true; the input reads as it did. -/
def volumeKnownUptoRow : OpenClaim := { program := "ytiifibgadipalaa", sum := "c00bb90b978182a7be1a81b24d0adfce664640d0750b8e417223bcdbce1de0db", func := "headword/headwordlaw10.VolumeKnown", spec := "volumeKnown", unfollowed := true, recurses := true, apart := false, narrowed := true }
def VolumeKnownUptoSaid : Prop := volumeKnownUptoRow.holds Try.pinned (OpenSpec.upto volumeKnownSpec)

/-- 'headwordlaw10.VolumeRow', WHERE WHAT IT READS IS OF BULK AT MOST 1048576: true; the input reads as it did. -/
def volumeRowUptoRow : OpenClaim := { program := "ytiifibgadipalaa", sum := "c00bb90b978182a7be1a81b24d0adfce664640d0750b8e417223bcdbce1de0db", func := "headword/headwordlaw10.VolumeRow", spec := "volumeRow", unfollowed := true, recurses := true, apart := false, narrowed := true }
def VolumeRowUptoSaid : Prop := volumeRowUptoRow.holds Try.pinned (OpenSpec.upto volumeRowSpec)

/-- 'headwordlaw10.VolumeMore', WHERE WHAT IT READS IS OF BULK AT MOST 1048576: true; the input reads as it did. -/
def volumeMoreUptoRow : OpenClaim := { program := "ytiifibgadipalaa", sum := "c00bb90b978182a7be1a81b24d0adfce664640d0750b8e417223bcdbce1de0db", func := "headword/headwordlaw10.VolumeMore", spec := "volumeMore", unfollowed := true, recurses := true, apart := false, narrowed := true }
def VolumeMoreUptoSaid : Prop := volumeMoreUptoRow.holds Try.pinned (OpenSpec.upto volumeMoreSpec)

/-- 'headwordlaw10.VolumeTurned', WHERE WHAT IT READS IS OF BULK AT MOST 1048576: true; the input reads as it did. -/
def volumeTurnedUptoRow : OpenClaim := { program := "ytiifibgadipalaa", sum := "c00bb90b978182a7be1a81b24d0adfce664640d0750b8e417223bcdbce1de0db", func := "headword/headwordlaw10.VolumeTurned", spec := "volumeTurned", unfollowed := true, recurses := true, apart := false, narrowed := true }
def VolumeTurnedUptoSaid : Prop := volumeTurnedUptoRow.holds Try.pinned (OpenSpec.upto volumeTurnedSpec)

/-- 'headwordlaw10.VolumeShown', WHERE WHAT IT READS IS OF BULK AT MOST 1048576: true; the input reads as it did. -/
def volumeShownUptoRow : OpenClaim := { program := "ytiifibgadipalaa", sum := "c00bb90b978182a7be1a81b24d0adfce664640d0750b8e417223bcdbce1de0db", func := "headword/headwordlaw10.VolumeShown", spec := "volumeShown", unfollowed := true, recurses := true, apart := false, narrowed := true }
def VolumeShownUptoSaid : Prop := volumeShownUptoRow.holds Try.pinned (OpenSpec.upto volumeShownSpec)

end Rows
end Go.Proofs.Ytiifibgadipalaa
