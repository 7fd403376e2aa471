/-
  No cell of these rows narrows 'for every input' (looked for: loops, veiled, ifaces, maps, wideKeys, modest, calm, conditions, laid).
  DERIVED. THE GIVEN ROWS OF THIS SEAT. 17 by the template 'for every input the law returns true; each argument reads behind the call as it read before'; 0 by the template 'total and deterministic' (their statements: YtffpfcomikcimaaTotals.lean).
  GIVEN WITH THE SEED: the statements are not yours to turn. If you find one false, say at which input.
  Laid BY PROGRAM, IN A SANDBOX (cutbox-rows.mjs): the forced cells as the released guide's own fill.sh prints them over the translation 01bd41476f6f723e… (all of the seat's roots in one cut). By AI agents, Wed Nov 11 2026. No macro, syntax, notation, axiom, sorry.
-/
import Derived.Test.YtffpfcomikcimaaChecked
import GoSem.Claim
import GoSem.ClaimJoined
import GoSem.ClaimMapViews
import Derived.JoinedTies
import Derived.KernelRfl
namespace Go.Proofs.Ytffpfcomikcimaa
/- THE CELL 'sum', in the pinned program and in every row, IS THE sha256 OF THE DUMP (.gsa) THAT YtffpfcomikcimaaProg.lean LOADS. Nothing in Lean hashes anything: it is a label: what it is worth is what the hold of that sum in a sandbox is worth. -/
noncomputable def Try.pinned : Pinned := { name := "ytffpfcomikcimaa", sum := "01bd41476f6f723e5c227175b0ac0d26aba1d3c0dbcf66d048106541ce6fe634", checked := Try.checked }
namespace Rows
def none {H : Type} : Left H := { results := [], args := [] }

/-- 'paravanelaw01.RegionTights': WHATEVER THE INPUT: true; the input reads as it did. -/
def regionTightsSpec : ChangeSpec := { name := "regionTights", fn := fun _ => fun
  | [d1, d2] => { results := [.lit (.bool true)], args := [d1, d2] }
  | _ => none }
def regionTightsRow : OpenClaim := { program := "ytffpfcomikcimaa", sum := "01bd41476f6f723e5c227175b0ac0d26aba1d3c0dbcf66d048106541ce6fe634", func := "paravane/paravanelaw01.RegionTights", spec := "regionTights", unfollowed := true, recurses := true, apart := false }
def RegionTightsSaid : Prop := regionTightsRow.holds Try.pinned (OpenSpec.ofChange regionTightsSpec)

/-- ITS FALSE NEIGHBOUR: 'it returns false'. Refute it at one input. -/
def regionTightsWrong : ChangeSpec := { name := "regionTights", fn := fun _ => fun
  | [d1, d2] => { results := [.lit (.bool false)], args := [d1, d2] }
  | _ => none }
def RegionTightsWrongFalsely : Prop := regionTightsRow.holds Try.pinned (OpenSpec.ofChange regionTightsWrong)

/-- 'paravanelaw01.RegionMoves': WHATEVER THE INPUT: true; the input reads as it did. -/
def regionMovesSpec : ChangeSpec := { name := "regionMoves", fn := fun _ => fun
  | [d1, d2] => { results := [.lit (.bool true)], args := [d1, d2] }
  | _ => none }
def regionMovesRow : OpenClaim := { program := "ytffpfcomikcimaa", sum := "01bd41476f6f723e5c227175b0ac0d26aba1d3c0dbcf66d048106541ce6fe634", func := "paravane/paravanelaw01.RegionMoves", spec := "regionMoves", unfollowed := true, recurses := true, apart := false }
def RegionMovesSaid : Prop := regionMovesRow.holds Try.pinned (OpenSpec.ofChange regionMovesSpec)

/-- ITS FALSE NEIGHBOUR: 'it returns false'. Refute it at one input. -/
def regionMovesWrong : ChangeSpec := { name := "regionMoves", fn := fun _ => fun
  | [d1, d2] => { results := [.lit (.bool false)], args := [d1, d2] }
  | _ => none }
def RegionMovesWrongFalsely : Prop := regionMovesRow.holds Try.pinned (OpenSpec.ofChange regionMovesWrong)

/-- 'paravanelaw01.RegionFar': WHATEVER THE INPUT: true; the input reads as it did. -/
def regionFarSpec : ChangeSpec := { name := "regionFar", fn := fun _ => fun
  | [d1, d2, d3] => { results := [.lit (.bool true)], args := [d1, d2, d3] }
  | _ => none }
def regionFarRow : OpenClaim := { program := "ytffpfcomikcimaa", sum := "01bd41476f6f723e5c227175b0ac0d26aba1d3c0dbcf66d048106541ce6fe634", func := "paravane/paravanelaw01.RegionFar", spec := "regionFar", unfollowed := true, recurses := true, apart := false }
def RegionFarSaid : Prop := regionFarRow.holds Try.pinned (OpenSpec.ofChange regionFarSpec)

/-- ITS FALSE NEIGHBOUR: 'it returns false'. Refute it at one input. -/
def regionFarWrong : ChangeSpec := { name := "regionFar", fn := fun _ => fun
  | [d1, d2, d3] => { results := [.lit (.bool false)], args := [d1, d2, d3] }
  | _ => none }
def RegionFarWrongFalsely : Prop := regionFarRow.holds Try.pinned (OpenSpec.ofChange regionFarWrong)

/-- 'paravanelaw01.RegionClashes': WHATEVER THE INPUT: true; the input reads as it did. -/
def regionClashesSpec : ChangeSpec := { name := "regionClashes", fn := fun _ => fun
  | [d] => { results := [.lit (.bool true)], args := [d] }
  | _ => none }
def regionClashesRow : OpenClaim := { program := "ytffpfcomikcimaa", sum := "01bd41476f6f723e5c227175b0ac0d26aba1d3c0dbcf66d048106541ce6fe634", func := "paravane/paravanelaw01.RegionClashes", spec := "regionClashes", unfollowed := true, recurses := true, apart := false }
def RegionClashesSaid : Prop := regionClashesRow.holds Try.pinned (OpenSpec.ofChange regionClashesSpec)

/-- ITS FALSE NEIGHBOUR: 'it returns false'. Refute it at one input. -/
def regionClashesWrong : ChangeSpec := { name := "regionClashes", fn := fun _ => fun
  | [d] => { results := [.lit (.bool false)], args := [d] }
  | _ => none }
def RegionClashesWrongFalsely : Prop := regionClashesRow.holds Try.pinned (OpenSpec.ofChange regionClashesWrong)

/-- 'paravanelaw01.RegionShift': WHATEVER THE INPUT: true; the input reads as it did. -/
def regionShiftSpec : ChangeSpec := { name := "regionShift", fn := fun _ => fun
  | [d1, d2, d3] => { results := [.lit (.bool true)], args := [d1, d2, d3] }
  | _ => none }
def regionShiftRow : OpenClaim := { program := "ytffpfcomikcimaa", sum := "01bd41476f6f723e5c227175b0ac0d26aba1d3c0dbcf66d048106541ce6fe634", func := "paravane/paravanelaw01.RegionShift", spec := "regionShift", unfollowed := true, recurses := true, apart := false }
def RegionShiftSaid : Prop := regionShiftRow.holds Try.pinned (OpenSpec.ofChange regionShiftSpec)

/-- ITS FALSE NEIGHBOUR: 'it returns false'. Refute it at one input. -/
def regionShiftWrong : ChangeSpec := { name := "regionShift", fn := fun _ => fun
  | [d1, d2, d3] => { results := [.lit (.bool false)], args := [d1, d2, d3] }
  | _ => none }
def RegionShiftWrongFalsely : Prop := regionShiftRow.holds Try.pinned (OpenSpec.ofChange regionShiftWrong)

/-- 'paravanelaw01.RegionFields': WHATEVER THE INPUT: true; the input reads as it did. -/
def regionFieldsSpec : ChangeSpec := { name := "regionFields", fn := fun _ => fun
  | [d1, d2, d3] => { results := [.lit (.bool true)], args := [d1, d2, d3] }
  | _ => none }
def regionFieldsRow : OpenClaim := { program := "ytffpfcomikcimaa", sum := "01bd41476f6f723e5c227175b0ac0d26aba1d3c0dbcf66d048106541ce6fe634", func := "paravane/paravanelaw01.RegionFields", spec := "regionFields", unfollowed := true, recurses := true, apart := false }
def RegionFieldsSaid : Prop := regionFieldsRow.holds Try.pinned (OpenSpec.ofChange regionFieldsSpec)

/-- ITS FALSE NEIGHBOUR: 'it returns false'. Refute it at one input. -/
def regionFieldsWrong : ChangeSpec := { name := "regionFields", fn := fun _ => fun
  | [d1, d2, d3] => { results := [.lit (.bool false)], args := [d1, d2, d3] }
  | _ => none }
def RegionFieldsWrongFalsely : Prop := regionFieldsRow.holds Try.pinned (OpenSpec.ofChange regionFieldsWrong)

/-- 'paravanelaw01.RegionPairs': WHATEVER THE INPUT: true; the input reads as it did. -/
def regionPairsSpec : ChangeSpec := { name := "regionPairs", fn := fun _ => fun
  | [d1, d2] => { results := [.lit (.bool true)], args := [d1, d2] }
  | _ => none }
def regionPairsRow : OpenClaim := { program := "ytffpfcomikcimaa", sum := "01bd41476f6f723e5c227175b0ac0d26aba1d3c0dbcf66d048106541ce6fe634", func := "paravane/paravanelaw01.RegionPairs", spec := "regionPairs", unfollowed := true, recurses := true, apart := false }
def RegionPairsSaid : Prop := regionPairsRow.holds Try.pinned (OpenSpec.ofChange regionPairsSpec)

/-- ITS FALSE NEIGHBOUR: 'it returns false'. Refute it at one input. -/
def regionPairsWrong : ChangeSpec := { name := "regionPairs", fn := fun _ => fun
  | [d1, d2] => { results := [.lit (.bool false)], args := [d1, d2] }
  | _ => none }
def RegionPairsWrongFalsely : Prop := regionPairsRow.holds Try.pinned (OpenSpec.ofChange regionPairsWrong)

/-- 'paravanelaw01.RegionEnds': WHATEVER THE INPUT: true; the input reads as it did. -/
def regionEndsSpec : ChangeSpec := { name := "regionEnds", fn := fun _ => fun
  | [d1, d2] => { results := [.lit (.bool true)], args := [d1, d2] }
  | _ => none }
def regionEndsRow : OpenClaim := { program := "ytffpfcomikcimaa", sum := "01bd41476f6f723e5c227175b0ac0d26aba1d3c0dbcf66d048106541ce6fe634", func := "paravane/paravanelaw01.RegionEnds", spec := "regionEnds", unfollowed := true, recurses := true, apart := false }
def RegionEndsSaid : Prop := regionEndsRow.holds Try.pinned (OpenSpec.ofChange regionEndsSpec)

/-- ITS FALSE NEIGHBOUR: 'it returns false'. Refute it at one input. -/
def regionEndsWrong : ChangeSpec := { name := "regionEnds", fn := fun _ => fun
  | [d1, d2] => { results := [.lit (.bool false)], args := [d1, d2] }
  | _ => none }
def RegionEndsWrongFalsely : Prop := regionEndsRow.holds Try.pinned (OpenSpec.ofChange regionEndsWrong)

/-- 'paravanelaw01.RegionBoth': WHATEVER THE INPUT: true; the input reads as it did. -/
def regionBothSpec : ChangeSpec := { name := "regionBoth", fn := fun _ => fun
  | [d1, d2, d3] => { results := [.lit (.bool true)], args := [d1, d2, d3] }
  | _ => none }
def regionBothRow : OpenClaim := { program := "ytffpfcomikcimaa", sum := "01bd41476f6f723e5c227175b0ac0d26aba1d3c0dbcf66d048106541ce6fe634", func := "paravane/paravanelaw01.RegionBoth", spec := "regionBoth", unfollowed := true, recurses := true, apart := false }
def RegionBothSaid : Prop := regionBothRow.holds Try.pinned (OpenSpec.ofChange regionBothSpec)

/-- ITS FALSE NEIGHBOUR: 'it returns false'. Refute it at one input. -/
def regionBothWrong : ChangeSpec := { name := "regionBoth", fn := fun _ => fun
  | [d1, d2, d3] => { results := [.lit (.bool false)], args := [d1, d2, d3] }
  | _ => none }
def RegionBothWrongFalsely : Prop := regionBothRow.holds Try.pinned (OpenSpec.ofChange regionBothWrong)

/-- 'paravanelaw01.RegionReached': WHATEVER THE INPUT: true; the input reads as it did. -/
def regionReachedSpec : ChangeSpec := { name := "regionReached", fn := fun _ => fun
  | [d1, d2, d3] => { results := [.lit (.bool true)], args := [d1, d2, d3] }
  | _ => none }
def regionReachedRow : OpenClaim := { program := "ytffpfcomikcimaa", sum := "01bd41476f6f723e5c227175b0ac0d26aba1d3c0dbcf66d048106541ce6fe634", func := "paravane/paravanelaw01.RegionReached", spec := "regionReached", unfollowed := true, recurses := true, apart := false }
def RegionReachedSaid : Prop := regionReachedRow.holds Try.pinned (OpenSpec.ofChange regionReachedSpec)

/-- ITS FALSE NEIGHBOUR: 'it returns false'. Refute it at one input. -/
def regionReachedWrong : ChangeSpec := { name := "regionReached", fn := fun _ => fun
  | [d1, d2, d3] => { results := [.lit (.bool false)], args := [d1, d2, d3] }
  | _ => none }
def RegionReachedWrongFalsely : Prop := regionReachedRow.holds Try.pinned (OpenSpec.ofChange regionReachedWrong)

/-- 'paravanelaw01.RegionSwept': WHATEVER THE INPUT: true; the input reads as it did. -/
def regionSweptSpec : ChangeSpec := { name := "regionSwept", fn := fun _ => fun
  | [d1, d2, d3] => { results := [.lit (.bool true)], args := [d1, d2, d3] }
  | _ => none }
def regionSweptRow : OpenClaim := { program := "ytffpfcomikcimaa", sum := "01bd41476f6f723e5c227175b0ac0d26aba1d3c0dbcf66d048106541ce6fe634", func := "paravane/paravanelaw01.RegionSwept", spec := "regionSwept", unfollowed := true, recurses := true, apart := false }
def RegionSweptSaid : Prop := regionSweptRow.holds Try.pinned (OpenSpec.ofChange regionSweptSpec)

/-- ITS FALSE NEIGHBOUR: 'it returns false'. Refute it at one input. -/
def regionSweptWrong : ChangeSpec := { name := "regionSwept", fn := fun _ => fun
  | [d1, d2, d3] => { results := [.lit (.bool false)], args := [d1, d2, d3] }
  | _ => none }
def RegionSweptWrongFalsely : Prop := regionSweptRow.holds Try.pinned (OpenSpec.ofChange regionSweptWrong)

/-- 'paravanelaw01.RegionPeaks': WHATEVER THE INPUT: true; the input reads as it did. -/
def regionPeaksSpec : ChangeSpec := { name := "regionPeaks", fn := fun _ => fun
  | [d1, d2, d3] => { results := [.lit (.bool true)], args := [d1, d2, d3] }
  | _ => none }
def regionPeaksRow : OpenClaim := { program := "ytffpfcomikcimaa", sum := "01bd41476f6f723e5c227175b0ac0d26aba1d3c0dbcf66d048106541ce6fe634", func := "paravane/paravanelaw01.RegionPeaks", spec := "regionPeaks", unfollowed := true, recurses := true, apart := false }
def RegionPeaksSaid : Prop := regionPeaksRow.holds Try.pinned (OpenSpec.ofChange regionPeaksSpec)

/-- ITS FALSE NEIGHBOUR: 'it returns false'. Refute it at one input. -/
def regionPeaksWrong : ChangeSpec := { name := "regionPeaks", fn := fun _ => fun
  | [d1, d2, d3] => { results := [.lit (.bool false)], args := [d1, d2, d3] }
  | _ => none }
def RegionPeaksWrongFalsely : Prop := regionPeaksRow.holds Try.pinned (OpenSpec.ofChange regionPeaksWrong)

/-- 'paravanelaw01.RegionHelly': WHATEVER THE INPUT: true; the input reads as it did. -/
def regionHellySpec : ChangeSpec := { name := "regionHelly", fn := fun _ => fun
  | [d1, d2] => { results := [.lit (.bool true)], args := [d1, d2] }
  | _ => none }
def regionHellyRow : OpenClaim := { program := "ytffpfcomikcimaa", sum := "01bd41476f6f723e5c227175b0ac0d26aba1d3c0dbcf66d048106541ce6fe634", func := "paravane/paravanelaw01.RegionHelly", spec := "regionHelly", unfollowed := true, recurses := true, apart := false }
def RegionHellySaid : Prop := regionHellyRow.holds Try.pinned (OpenSpec.ofChange regionHellySpec)

/-- ITS FALSE NEIGHBOUR: 'it returns false'. Refute it at one input. -/
def regionHellyWrong : ChangeSpec := { name := "regionHelly", fn := fun _ => fun
  | [d1, d2] => { results := [.lit (.bool false)], args := [d1, d2] }
  | _ => none }
def RegionHellyWrongFalsely : Prop := regionHellyRow.holds Try.pinned (OpenSpec.ofChange regionHellyWrong)

/-- 'paravanelaw01.RegionStraight': WHATEVER THE INPUT: true; the input reads as it did. -/
def regionStraightSpec : ChangeSpec := { name := "regionStraight", fn := fun _ => fun
  | [d1, d2, d3] => { results := [.lit (.bool true)], args := [d1, d2, d3] }
  | _ => none }
def regionStraightRow : OpenClaim := { program := "ytffpfcomikcimaa", sum := "01bd41476f6f723e5c227175b0ac0d26aba1d3c0dbcf66d048106541ce6fe634", func := "paravane/paravanelaw01.RegionStraight", spec := "regionStraight", unfollowed := true, recurses := true, apart := false }
def RegionStraightSaid : Prop := regionStraightRow.holds Try.pinned (OpenSpec.ofChange regionStraightSpec)

/-- ITS FALSE NEIGHBOUR: 'it returns false'. Refute it at one input. -/
def regionStraightWrong : ChangeSpec := { name := "regionStraight", fn := fun _ => fun
  | [d1, d2, d3] => { results := [.lit (.bool false)], args := [d1, d2, d3] }
  | _ => none }
def RegionStraightWrongFalsely : Prop := regionStraightRow.holds Try.pinned (OpenSpec.ofChange regionStraightWrong)

/-- 'paravanelaw01.RegionAdded': WHATEVER THE INPUT: true; the input reads as it did. -/
def regionAddedSpec : ChangeSpec := { name := "regionAdded", fn := fun _ => fun
  | [d1, d2, d3] => { results := [.lit (.bool true)], args := [d1, d2, d3] }
  | _ => none }
def regionAddedRow : OpenClaim := { program := "ytffpfcomikcimaa", sum := "01bd41476f6f723e5c227175b0ac0d26aba1d3c0dbcf66d048106541ce6fe634", func := "paravane/paravanelaw01.RegionAdded", spec := "regionAdded", unfollowed := true, recurses := true, apart := false }
def RegionAddedSaid : Prop := regionAddedRow.holds Try.pinned (OpenSpec.ofChange regionAddedSpec)

/-- ITS FALSE NEIGHBOUR: 'it returns false'. Refute it at one input. -/
def regionAddedWrong : ChangeSpec := { name := "regionAdded", fn := fun _ => fun
  | [d1, d2, d3] => { results := [.lit (.bool false)], args := [d1, d2, d3] }
  | _ => none }
def RegionAddedWrongFalsely : Prop := regionAddedRow.holds Try.pinned (OpenSpec.ofChange regionAddedWrong)

/-- 'paravanelaw01.RegionNames': WHATEVER THE INPUT: true; the input reads as it did. -/
def regionNamesSpec : ChangeSpec := { name := "regionNames", fn := fun _ => fun
  | [d1, d2, d3] => { results := [.lit (.bool true)], args := [d1, d2, d3] }
  | _ => none }
def regionNamesRow : OpenClaim := { program := "ytffpfcomikcimaa", sum := "01bd41476f6f723e5c227175b0ac0d26aba1d3c0dbcf66d048106541ce6fe634", func := "paravane/paravanelaw01.RegionNames", spec := "regionNames", unfollowed := true, recurses := true, apart := false }
def RegionNamesSaid : Prop := regionNamesRow.holds Try.pinned (OpenSpec.ofChange regionNamesSpec)

/-- ITS FALSE NEIGHBOUR: 'it returns false'. Refute it at one input. -/
def regionNamesWrong : ChangeSpec := { name := "regionNames", fn := fun _ => fun
  | [d1, d2, d3] => { results := [.lit (.bool false)], args := [d1, d2, d3] }
  | _ => none }
def RegionNamesWrongFalsely : Prop := regionNamesRow.holds Try.pinned (OpenSpec.ofChange regionNamesWrong)

/-- 'paravanelaw01.RegionKnown': WHATEVER THE INPUT: true; the input reads as it did. -/
def regionKnownSpec : ChangeSpec := { name := "regionKnown", fn := fun _ => fun
  | [] => { results := [.lit (.bool true)], args := [] }
  | _ => none }
def regionKnownRow : OpenClaim := { program := "ytffpfcomikcimaa", sum := "01bd41476f6f723e5c227175b0ac0d26aba1d3c0dbcf66d048106541ce6fe634", func := "paravane/paravanelaw01.RegionKnown", spec := "regionKnown", unfollowed := true, recurses := true, apart := false }
def RegionKnownSaid : Prop := regionKnownRow.holds Try.pinned (OpenSpec.ofChange regionKnownSpec)

/-- ITS FALSE NEIGHBOUR: 'it returns false'. Refute it at one input. -/
def regionKnownWrong : ChangeSpec := { name := "regionKnown", fn := fun _ => fun
  | [] => { results := [.lit (.bool false)], args := [] }
  | _ => none }
def RegionKnownWrongFalsely : Prop := regionKnownRow.holds Try.pinned (OpenSpec.ofChange regionKnownWrong)

/- THE SECOND FORM. 'bulk': how many values and letters a reading holds, each counted each time it is reached (what is shared counts as often as it is met; a slice's spare places count too). A statement '..UptoSaid' is the law's where the arguments, and the package variables that the reading takes, are together of bulk at most 1048576: NARROWER than '..Said'. Prove '..Said' where nothing that the law and all that it calls make is longer than what came in: it says more and counts as full. Else prove '..UptoSaid'. A law counts once. -/
mutual
def uptoBulk {H : Type} : DataW H → Nat
  | .lit (.string bytes) => bytes.length + 1
  | .lit _ => 1
  | .nil => 1
  | .ptr d => uptoBulk d + 1
  | .slice elems spare => uptoBulkAll elems + uptoBulkAll spare + 1
  | .agg parts => uptoBulkAll parts + 1
  | .iface _ d => uptoBulk d + 1
  | .map entries => uptoBulkEntries entries + 1
  | .held _ => 1
def uptoBulkAll {H : Type} : List (DataW H) → Nat
  | [] => 0
  | d :: r => uptoBulk d + uptoBulkAll r
def uptoBulkEntries {H : Type} : List (Lit × DataW H) → Nat
  | [] => 0
  | x :: r => uptoBulkEntry x + uptoBulkEntries r
def uptoBulkEntry {H : Type} : Lit × DataW H → Nat
  | (.string bytes, d) => bytes.length + uptoBulk d + 1
  | (_, d) => uptoBulk d + 1
 end
def uptoSmall : (H : Type) → List (DataW H) → Bool := fun _ ds => decide (uptoBulkAll ds ≤ 1048576)
def OpenSpec.upto (s : _root_.Go.ChangeSpec) : _root_.Go.OpenSpec := { _root_.Go.OpenSpec.ofChange s with cond := some uptoSmall }

/-- 'paravanelaw01.RegionTights', WHERE WHAT IT READS IS OF BULK AT MOST 1048576: true; the input reads as it did. -/
def regionTightsUptoRow : OpenClaim := { program := "ytffpfcomikcimaa", sum := "01bd41476f6f723e5c227175b0ac0d26aba1d3c0dbcf66d048106541ce6fe634", func := "paravane/paravanelaw01.RegionTights", spec := "regionTights", unfollowed := true, recurses := true, apart := false, narrowed := true }
def RegionTightsUptoSaid : Prop := regionTightsUptoRow.holds Try.pinned (OpenSpec.upto regionTightsSpec)

/-- 'paravanelaw01.RegionMoves', WHERE WHAT IT READS IS OF BULK AT MOST 1048576: true; the input reads as it did. -/
def regionMovesUptoRow : OpenClaim := { program := "ytffpfcomikcimaa", sum := "01bd41476f6f723e5c227175b0ac0d26aba1d3c0dbcf66d048106541ce6fe634", func := "paravane/paravanelaw01.RegionMoves", spec := "regionMoves", unfollowed := true, recurses := true, apart := false, narrowed := true }
def RegionMovesUptoSaid : Prop := regionMovesUptoRow.holds Try.pinned (OpenSpec.upto regionMovesSpec)

/-- 'paravanelaw01.RegionFar', WHERE WHAT IT READS IS OF BULK AT MOST 1048576: true; the input reads as it did. -/
def regionFarUptoRow : OpenClaim := { program := "ytffpfcomikcimaa", sum := "01bd41476f6f723e5c227175b0ac0d26aba1d3c0dbcf66d048106541ce6fe634", func := "paravane/paravanelaw01.RegionFar", spec := "regionFar", unfollowed := true, recurses := true, apart := false, narrowed := true }
def RegionFarUptoSaid : Prop := regionFarUptoRow.holds Try.pinned (OpenSpec.upto regionFarSpec)

/-- 'paravanelaw01.RegionClashes', WHERE WHAT IT READS IS OF BULK AT MOST 1048576: true; the input reads as it did. -/
def regionClashesUptoRow : OpenClaim := { program := "ytffpfcomikcimaa", sum := "01bd41476f6f723e5c227175b0ac0d26aba1d3c0dbcf66d048106541ce6fe634", func := "paravane/paravanelaw01.RegionClashes", spec := "regionClashes", unfollowed := true, recurses := true, apart := false, narrowed := true }
def RegionClashesUptoSaid : Prop := regionClashesUptoRow.holds Try.pinned (OpenSpec.upto regionClashesSpec)

/-- 'paravanelaw01.RegionShift', WHERE WHAT IT READS IS OF BULK AT MOST 1048576: true; the input reads as it did. -/
def regionShiftUptoRow : OpenClaim := { program := "ytffpfcomikcimaa", sum := "01bd41476f6f723e5c227175b0ac0d26aba1d3c0dbcf66d048106541ce6fe634", func := "paravane/paravanelaw01.RegionShift", spec := "regionShift", unfollowed := true, recurses := true, apart := false, narrowed := true }
def RegionShiftUptoSaid : Prop := regionShiftUptoRow.holds Try.pinned (OpenSpec.upto regionShiftSpec)

/-- 'paravanelaw01.RegionFields', WHERE WHAT IT READS IS OF BULK AT MOST 1048576: true; the input reads as it did. -/
def regionFieldsUptoRow : OpenClaim := { program := "ytffpfcomikcimaa", sum := "01bd41476f6f723e5c227175b0ac0d26aba1d3c0dbcf66d048106541ce6fe634", func := "paravane/paravanelaw01.RegionFields", spec := "regionFields", unfollowed := true, recurses := true, apart := false, narrowed := true }
def RegionFieldsUptoSaid : Prop := regionFieldsUptoRow.holds Try.pinned (OpenSpec.upto regionFieldsSpec)

/-- 'paravanelaw01.RegionPairs', WHERE WHAT IT READS IS OF BULK AT MOST 1048576: true; the input reads as it did. -/
def regionPairsUptoRow : OpenClaim := { program := "ytffpfcomikcimaa", sum := "01bd41476f6f723e5c227175b0ac0d26aba1d3c0dbcf66d048106541ce6fe634", func := "paravane/paravanelaw01.RegionPairs", spec := "regionPairs", unfollowed := true, recurses := true, apart := false, narrowed := true }
def RegionPairsUptoSaid : Prop := regionPairsUptoRow.holds Try.pinned (OpenSpec.upto regionPairsSpec)

/-- 'paravanelaw01.RegionEnds', WHERE WHAT IT READS IS OF BULK AT MOST 1048576: true; the input reads as it did. -/
def regionEndsUptoRow : OpenClaim := { program := "ytffpfcomikcimaa", sum := "01bd41476f6f723e5c227175b0ac0d26aba1d3c0dbcf66d048106541ce6fe634", func := "paravane/paravanelaw01.RegionEnds", spec := "regionEnds", unfollowed := true, recurses := true, apart := false, narrowed := true }
def RegionEndsUptoSaid : Prop := regionEndsUptoRow.holds Try.pinned (OpenSpec.upto regionEndsSpec)

/-- 'paravanelaw01.RegionBoth', WHERE WHAT IT READS IS OF BULK AT MOST 1048576: true; the input reads as it did. -/
def regionBothUptoRow : OpenClaim := { program := "ytffpfcomikcimaa", sum := "01bd41476f6f723e5c227175b0ac0d26aba1d3c0dbcf66d048106541ce6fe634", func := "paravane/paravanelaw01.RegionBoth", spec := "regionBoth", unfollowed := true, recurses := true, apart := false, narrowed := true }
def RegionBothUptoSaid : Prop := regionBothUptoRow.holds Try.pinned (OpenSpec.upto regionBothSpec)

/-- 'paravanelaw01.RegionReached', WHERE WHAT IT READS IS OF BULK AT MOST 1048576: true; the input reads as it did. -/
def regionReachedUptoRow : OpenClaim := { program := "ytffpfcomikcimaa", sum := "01bd41476f6f723e5c227175b0ac0d26aba1d3c0dbcf66d048106541ce6fe634", func := "paravane/paravanelaw01.RegionReached", spec := "regionReached", unfollowed := true, recurses := true, apart := false, narrowed := true }
def RegionReachedUptoSaid : Prop := regionReachedUptoRow.holds Try.pinned (OpenSpec.upto regionReachedSpec)

/-- 'paravanelaw01.RegionSwept', WHERE WHAT IT READS IS OF BULK AT MOST 1048576: true; the input reads as it did. -/
def regionSweptUptoRow : OpenClaim := { program := "ytffpfcomikcimaa", sum := "01bd41476f6f723e5c227175b0ac0d26aba1d3c0dbcf66d048106541ce6fe634", func := "paravane/paravanelaw01.RegionSwept", spec := "regionSwept", unfollowed := true, recurses := true, apart := false, narrowed := true }
def RegionSweptUptoSaid : Prop := regionSweptUptoRow.holds Try.pinned (OpenSpec.upto regionSweptSpec)

/-- 'paravanelaw01.RegionPeaks', WHERE WHAT IT READS IS OF BULK AT MOST 1048576: true; the input reads as it did. -/
def regionPeaksUptoRow : OpenClaim := { program := "ytffpfcomikcimaa", sum := "01bd41476f6f723e5c227175b0ac0d26aba1d3c0dbcf66d048106541ce6fe634", func := "paravane/paravanelaw01.RegionPeaks", spec := "regionPeaks", unfollowed := true, recurses := true, apart := false, narrowed := true }
def RegionPeaksUptoSaid : Prop := regionPeaksUptoRow.holds Try.pinned (OpenSpec.upto regionPeaksSpec)

/-- 'paravanelaw01.RegionHelly', WHERE WHAT IT READS IS OF BULK AT MOST 1048576: true; the input reads as it did. -/
def regionHellyUptoRow : OpenClaim := { program := "ytffpfcomikcimaa", sum := "01bd41476f6f723e5c227175b0ac0d26aba1d3c0dbcf66d048106541ce6fe634", func := "paravane/paravanelaw01.RegionHelly", spec := "regionHelly", unfollowed := true, recurses := true, apart := false, narrowed := true }
def RegionHellyUptoSaid : Prop := regionHellyUptoRow.holds Try.pinned (OpenSpec.upto regionHellySpec)

/-- 'paravanelaw01.RegionStraight', WHERE WHAT IT READS IS OF BULK AT MOST 1048576: true; the input reads as it did. -/
def regionStraightUptoRow : OpenClaim := { program := "ytffpfcomikcimaa", sum := "01bd41476f6f723e5c227175b0ac0d26aba1d3c0dbcf66d048106541ce6fe634", func := "paravane/paravanelaw01.RegionStraight", spec := "regionStraight", unfollowed := true, recurses := true, apart := false, narrowed := true }
def RegionStraightUptoSaid : Prop := regionStraightUptoRow.holds Try.pinned (OpenSpec.upto regionStraightSpec)

/-- 'paravanelaw01.RegionAdded', WHERE WHAT IT READS IS OF BULK AT MOST 1048576: true; the input reads as it did. -/
def regionAddedUptoRow : OpenClaim := { program := "ytffpfcomikcimaa", sum := "01bd41476f6f723e5c227175b0ac0d26aba1d3c0dbcf66d048106541ce6fe634", func := "paravane/paravanelaw01.RegionAdded", spec := "regionAdded", unfollowed := true, recurses := true, apart := false, narrowed := true }
def RegionAddedUptoSaid : Prop := regionAddedUptoRow.holds Try.pinned (OpenSpec.upto regionAddedSpec)

/-- 'paravanelaw01.RegionNames', WHERE WHAT IT READS IS OF BULK AT MOST 1048576: true; the input reads as it did. -/
def regionNamesUptoRow : OpenClaim := { program := "ytffpfcomikcimaa", sum := "01bd41476f6f723e5c227175b0ac0d26aba1d3c0dbcf66d048106541ce6fe634", func := "paravane/paravanelaw01.RegionNames", spec := "regionNames", unfollowed := true, recurses := true, apart := false, narrowed := true }
def RegionNamesUptoSaid : Prop := regionNamesUptoRow.holds Try.pinned (OpenSpec.upto regionNamesSpec)

/-- 'paravanelaw01.RegionKnown', WHERE WHAT IT READS IS OF BULK AT MOST 1048576: true; the input reads as it did. -/
def regionKnownUptoRow : OpenClaim := { program := "ytffpfcomikcimaa", sum := "01bd41476f6f723e5c227175b0ac0d26aba1d3c0dbcf66d048106541ce6fe634", func := "paravane/paravanelaw01.RegionKnown", spec := "regionKnown", unfollowed := true, recurses := true, apart := false, narrowed := true }
def RegionKnownUptoSaid : Prop := regionKnownUptoRow.holds Try.pinned (OpenSpec.upto regionKnownSpec)

end Rows
end Go.Proofs.Ytffpfcomikcimaa
