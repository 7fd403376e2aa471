/-
  NARROWER THAN 'FOR EVERY INPUT', by the rows' own cells (each row's printed sentence says how): WatchGuards: laid · WatchSafe: laid · WatchBetter: laid · WatchMilder: laid · WatchNearer: laid · WatchKnown: laid · WatchGaps: laid · WatchGuarded: laid · WatchMoved: laid · WatchTruth: laid · WatchHeld: laid · WatchTold: laid.
  DERIVED. THE GIVEN ROWS OF THIS SEAT. 12 by the template 'for every input the law returns true; each argument reads behind the call as it read before'; 0 by the template 'total and deterministic' (their statements: YtaplkoimhecacaaDoorTotals.lean).
  GIVEN WITH THE SEED: the statements are not yours to turn. If you find one false, say at which input.
  Laid BY PROGRAM, IN A SANDBOX (cutbox-rows.mjs): the forced cells as the released guide's own fill.sh prints them over the translation a77da692f3369d5a… (all of the seat's roots in one cut). By AI agents, Wed Nov 11 2026. No macro, syntax, notation, axiom, sorry.
-/
import Derived.Test.YtaplkoimhecacaaDoorChecked
import GoSem.Claim
import GoSem.ClaimJoined
import GoSem.ClaimMapViews
import Derived.JoinedTies
import Derived.KernelRfl
namespace Go.Proofs.YtaplkoimhecacaaDoor
/- THE CELL 'sum', in the pinned program and in every row, IS THE sha256 OF THE DUMP (.gsa) THAT YtaplkoimhecacaaDoorProg.lean LOADS. Nothing in Lean hashes anything: it is a label: what it is worth is what the hold of that sum in a sandbox is worth. -/
noncomputable def Tryd.pinned : Pinned := { name := "ytaplkoimhecacaadoor", sum := "a77da692f3369d5ab19d6edb64766f0d380bfc0a87b5345cdb95d252a92fa497", checked := Tryd.checked }
namespace Rows
def none {H : Type} : Left H := { results := [], args := [] }

/- WHAT THE LISTED PACKAGE-LEVEL VARIABLES READ AS WHEN THE CALL BEGINS. Each datum BY PROGRAM (the guide's laid-datum.mjs) off the statement by which the dump's own 'gosem.cut.vars' lays the variable. In a bare row this is a premise. The card (YtaplkoimhecacaaDoorCards.lean) ties it to the program's text. -/
def laid_paravane_watch_first {H : Type} : DataW H := .agg [.lit (.int .i64 0), .lit (.int .i64 (-1))]
def laid_paravane_watch_octants {H : Type} : DataW H := .iface "func table" (.agg [.iface "func" (.lit (.string [40, 112, 97, 114, 97, 118, 97, 110, 101, 47, 119, 97, 116, 99, 104, 46, 99, 111, 110, 101, 41, 46, 111, 99, 116, 97, 110, 116, 48])), .iface "func" (.lit (.string [40, 112, 97, 114, 97, 118, 97, 110, 101, 47, 119, 97, 116, 99, 104, 46, 99, 111, 110, 101, 41, 46, 111, 99, 116, 97, 110, 116, 49])), .iface "func" (.lit (.string [40, 112, 97, 114, 97, 118, 97, 110, 101, 47, 119, 97, 116, 99, 104, 46, 99, 111, 110, 101, 41, 46, 111, 99, 116, 97, 110, 116, 50])), .iface "func" (.lit (.string [40, 112, 97, 114, 97, 118, 97, 110, 101, 47, 119, 97, 116, 99, 104, 46, 99, 111, 110, 101, 41, 46, 111, 99, 116, 97, 110, 116, 51])), .iface "func" (.lit (.string [40, 112, 97, 114, 97, 118, 97, 110, 101, 47, 119, 97, 116, 99, 104, 46, 99, 111, 110, 101, 41, 46, 111, 99, 116, 97, 110, 116, 52])), .iface "func" (.lit (.string [40, 112, 97, 114, 97, 118, 97, 110, 101, 47, 119, 97, 116, 99, 104, 46, 99, 111, 110, 101, 41, 46, 111, 99, 116, 97, 110, 116, 53])), .iface "func" (.lit (.string [40, 112, 97, 114, 97, 118, 97, 110, 101, 47, 119, 97, 116, 99, 104, 46, 99, 111, 110, 101, 41, 46, 111, 99, 116, 97, 110, 116, 54])), .iface "func" (.lit (.string [40, 112, 97, 114, 97, 118, 97, 110, 101, 47, 119, 97, 116, 99, 104, 46, 99, 111, 110, 101, 41, 46, 111, 99, 116, 97, 110, 116, 55]))])

/-- 'paravanelaw06.WatchGuards': WHATEVER THE INPUT: true; the input reads as it did. -/
def watchGuardsSpec : ChangeSpec := { name := "watchGuards", fn := fun _ => fun
  | [d1, d2, d3] => { results := [.lit (.bool true)], args := [d1, d2, d3] }
  | _ => none }
def watchGuardsRow : OpenClaim := { program := "ytaplkoimhecacaadoor", sum := "a77da692f3369d5ab19d6edb64766f0d380bfc0a87b5345cdb95d252a92fa497", func := "paravane/paravanelaw06.WatchGuards", spec := "watchGuards", unfollowed := true, recurses := true, named := ["paravane/watch.octants", "paravane/watch.first"], plainKeys := false, apart := false, laid := [("paravane/watch.first", laid_paravane_watch_first), ("paravane/watch.octants", laid_paravane_watch_octants)] }
def WatchGuardsSaid : Prop := watchGuardsRow.holds Tryd.pinned (OpenSpec.ofChange watchGuardsSpec)

/-- ITS FALSE NEIGHBOUR: 'it returns false'. Refute it at one input. -/
def watchGuardsWrong : ChangeSpec := { name := "watchGuards", fn := fun _ => fun
  | [d1, d2, d3] => { results := [.lit (.bool false)], args := [d1, d2, d3] }
  | _ => none }
def WatchGuardsWrongFalsely : Prop := watchGuardsRow.holds Tryd.pinned (OpenSpec.ofChange watchGuardsWrong)

/-- 'paravanelaw06.WatchSafe': WHATEVER THE INPUT: true; the input reads as it did. -/
def watchSafeSpec : ChangeSpec := { name := "watchSafe", fn := fun _ => fun
  | [d1, d2, d3] => { results := [.lit (.bool true)], args := [d1, d2, d3] }
  | _ => none }
def watchSafeRow : OpenClaim := { program := "ytaplkoimhecacaadoor", sum := "a77da692f3369d5ab19d6edb64766f0d380bfc0a87b5345cdb95d252a92fa497", func := "paravane/paravanelaw06.WatchSafe", spec := "watchSafe", unfollowed := true, recurses := true, named := ["paravane/watch.first", "paravane/watch.octants"], plainKeys := false, apart := false, laid := [("paravane/watch.first", laid_paravane_watch_first), ("paravane/watch.octants", laid_paravane_watch_octants)] }
def WatchSafeSaid : Prop := watchSafeRow.holds Tryd.pinned (OpenSpec.ofChange watchSafeSpec)

/-- ITS FALSE NEIGHBOUR: 'it returns false'. Refute it at one input. -/
def watchSafeWrong : ChangeSpec := { name := "watchSafe", fn := fun _ => fun
  | [d1, d2, d3] => { results := [.lit (.bool false)], args := [d1, d2, d3] }
  | _ => none }
def WatchSafeWrongFalsely : Prop := watchSafeRow.holds Tryd.pinned (OpenSpec.ofChange watchSafeWrong)

/-- 'paravanelaw06.WatchBetter': WHATEVER THE INPUT: true; the input reads as it did. -/
def watchBetterSpec : ChangeSpec := { name := "watchBetter", fn := fun _ => fun
  | [d1, d2, d3] => { results := [.lit (.bool true)], args := [d1, d2, d3] }
  | _ => none }
def watchBetterRow : OpenClaim := { program := "ytaplkoimhecacaadoor", sum := "a77da692f3369d5ab19d6edb64766f0d380bfc0a87b5345cdb95d252a92fa497", func := "paravane/paravanelaw06.WatchBetter", spec := "watchBetter", unfollowed := true, recurses := true, named := ["paravane/watch.first", "paravane/watch.octants"], plainKeys := false, apart := false, laid := [("paravane/watch.first", laid_paravane_watch_first), ("paravane/watch.octants", laid_paravane_watch_octants)] }
def WatchBetterSaid : Prop := watchBetterRow.holds Tryd.pinned (OpenSpec.ofChange watchBetterSpec)

/-- ITS FALSE NEIGHBOUR: 'it returns false'. Refute it at one input. -/
def watchBetterWrong : ChangeSpec := { name := "watchBetter", fn := fun _ => fun
  | [d1, d2, d3] => { results := [.lit (.bool false)], args := [d1, d2, d3] }
  | _ => none }
def WatchBetterWrongFalsely : Prop := watchBetterRow.holds Tryd.pinned (OpenSpec.ofChange watchBetterWrong)

/-- 'paravanelaw06.WatchMilder': WHATEVER THE INPUT: true; the input reads as it did. -/
def watchMilderSpec : ChangeSpec := { name := "watchMilder", fn := fun _ => fun
  | [d1, d2, d3] => { results := [.lit (.bool true)], args := [d1, d2, d3] }
  | _ => none }
def watchMilderRow : OpenClaim := { program := "ytaplkoimhecacaadoor", sum := "a77da692f3369d5ab19d6edb64766f0d380bfc0a87b5345cdb95d252a92fa497", func := "paravane/paravanelaw06.WatchMilder", spec := "watchMilder", unfollowed := true, recurses := true, named := ["paravane/watch.octants", "paravane/watch.first"], plainKeys := false, apart := false, laid := [("paravane/watch.first", laid_paravane_watch_first), ("paravane/watch.octants", laid_paravane_watch_octants)] }
def WatchMilderSaid : Prop := watchMilderRow.holds Tryd.pinned (OpenSpec.ofChange watchMilderSpec)

/-- ITS FALSE NEIGHBOUR: 'it returns false'. Refute it at one input. -/
def watchMilderWrong : ChangeSpec := { name := "watchMilder", fn := fun _ => fun
  | [d1, d2, d3] => { results := [.lit (.bool false)], args := [d1, d2, d3] }
  | _ => none }
def WatchMilderWrongFalsely : Prop := watchMilderRow.holds Tryd.pinned (OpenSpec.ofChange watchMilderWrong)

/-- 'paravanelaw06.WatchNearer': WHATEVER THE INPUT: true; the input reads as it did. -/
def watchNearerSpec : ChangeSpec := { name := "watchNearer", fn := fun _ => fun
  | [d1, d2, d3] => { results := [.lit (.bool true)], args := [d1, d2, d3] }
  | _ => none }
def watchNearerRow : OpenClaim := { program := "ytaplkoimhecacaadoor", sum := "a77da692f3369d5ab19d6edb64766f0d380bfc0a87b5345cdb95d252a92fa497", func := "paravane/paravanelaw06.WatchNearer", spec := "watchNearer", unfollowed := true, recurses := true, named := ["paravane/watch.octants", "paravane/watch.first"], plainKeys := false, apart := false, laid := [("paravane/watch.first", laid_paravane_watch_first), ("paravane/watch.octants", laid_paravane_watch_octants)] }
def WatchNearerSaid : Prop := watchNearerRow.holds Tryd.pinned (OpenSpec.ofChange watchNearerSpec)

/-- ITS FALSE NEIGHBOUR: 'it returns false'. Refute it at one input. -/
def watchNearerWrong : ChangeSpec := { name := "watchNearer", fn := fun _ => fun
  | [d1, d2, d3] => { results := [.lit (.bool false)], args := [d1, d2, d3] }
  | _ => none }
def WatchNearerWrongFalsely : Prop := watchNearerRow.holds Tryd.pinned (OpenSpec.ofChange watchNearerWrong)

/-- 'paravanelaw06.WatchKnown': WHATEVER THE INPUT: true; the input reads as it did. -/
def watchKnownSpec : ChangeSpec := { name := "watchKnown", fn := fun _ => fun
  | [] => { results := [.lit (.bool true)], args := [] }
  | _ => none }
def watchKnownRow : OpenClaim := { program := "ytaplkoimhecacaadoor", sum := "a77da692f3369d5ab19d6edb64766f0d380bfc0a87b5345cdb95d252a92fa497", func := "paravane/paravanelaw06.WatchKnown", spec := "watchKnown", unfollowed := true, recurses := true, named := ["paravane/watch.octants", "paravane/watch.first"], plainKeys := false, apart := false, laid := [("paravane/watch.first", laid_paravane_watch_first), ("paravane/watch.octants", laid_paravane_watch_octants)] }
def WatchKnownSaid : Prop := watchKnownRow.holds Tryd.pinned (OpenSpec.ofChange watchKnownSpec)

/-- ITS FALSE NEIGHBOUR: 'it returns false'. Refute it at one input. -/
def watchKnownWrong : ChangeSpec := { name := "watchKnown", fn := fun _ => fun
  | [] => { results := [.lit (.bool false)], args := [] }
  | _ => none }
def WatchKnownWrongFalsely : Prop := watchKnownRow.holds Tryd.pinned (OpenSpec.ofChange watchKnownWrong)

/-- 'paravanelaw06.WatchGaps': WHATEVER THE INPUT: true; the input reads as it did. -/
def watchGapsSpec : ChangeSpec := { name := "watchGaps", fn := fun _ => fun
  | [d1, d2] => { results := [.lit (.bool true)], args := [d1, d2] }
  | _ => none }
def watchGapsRow : OpenClaim := { program := "ytaplkoimhecacaadoor", sum := "a77da692f3369d5ab19d6edb64766f0d380bfc0a87b5345cdb95d252a92fa497", func := "paravane/paravanelaw06.WatchGaps", spec := "watchGaps", unfollowed := true, recurses := true, named := ["paravane/watch.octants", "paravane/watch.first"], plainKeys := false, apart := false, laid := [("paravane/watch.first", laid_paravane_watch_first), ("paravane/watch.octants", laid_paravane_watch_octants)] }
def WatchGapsSaid : Prop := watchGapsRow.holds Tryd.pinned (OpenSpec.ofChange watchGapsSpec)

/-- ITS FALSE NEIGHBOUR: 'it returns false'. Refute it at one input. -/
def watchGapsWrong : ChangeSpec := { name := "watchGaps", fn := fun _ => fun
  | [d1, d2] => { results := [.lit (.bool false)], args := [d1, d2] }
  | _ => none }
def WatchGapsWrongFalsely : Prop := watchGapsRow.holds Tryd.pinned (OpenSpec.ofChange watchGapsWrong)

/-- 'paravanelaw06.WatchGuarded': WHATEVER THE INPUT: true; the input reads as it did. -/
def watchGuardedSpec : ChangeSpec := { name := "watchGuarded", fn := fun _ => fun
  | [d1, d2, d3] => { results := [.lit (.bool true)], args := [d1, d2, d3] }
  | _ => none }
def watchGuardedRow : OpenClaim := { program := "ytaplkoimhecacaadoor", sum := "a77da692f3369d5ab19d6edb64766f0d380bfc0a87b5345cdb95d252a92fa497", func := "paravane/paravanelaw06.WatchGuarded", spec := "watchGuarded", unfollowed := true, recurses := true, named := ["paravane/watch.octants", "paravane/watch.first"], plainKeys := false, apart := false, laid := [("paravane/watch.first", laid_paravane_watch_first), ("paravane/watch.octants", laid_paravane_watch_octants)] }
def WatchGuardedSaid : Prop := watchGuardedRow.holds Tryd.pinned (OpenSpec.ofChange watchGuardedSpec)

/-- ITS FALSE NEIGHBOUR: 'it returns false'. Refute it at one input. -/
def watchGuardedWrong : ChangeSpec := { name := "watchGuarded", fn := fun _ => fun
  | [d1, d2, d3] => { results := [.lit (.bool false)], args := [d1, d2, d3] }
  | _ => none }
def WatchGuardedWrongFalsely : Prop := watchGuardedRow.holds Tryd.pinned (OpenSpec.ofChange watchGuardedWrong)

/-- 'paravanelaw06.WatchMoved': WHATEVER THE INPUT: true; the input reads as it did. -/
def watchMovedSpec : ChangeSpec := { name := "watchMoved", fn := fun _ => fun
  | [d1, d2, d3] => { results := [.lit (.bool true)], args := [d1, d2, d3] }
  | _ => none }
def watchMovedRow : OpenClaim := { program := "ytaplkoimhecacaadoor", sum := "a77da692f3369d5ab19d6edb64766f0d380bfc0a87b5345cdb95d252a92fa497", func := "paravane/paravanelaw06.WatchMoved", spec := "watchMoved", unfollowed := true, recurses := true, named := ["paravane/watch.octants", "paravane/watch.first"], plainKeys := false, apart := false, laid := [("paravane/watch.first", laid_paravane_watch_first), ("paravane/watch.octants", laid_paravane_watch_octants)] }
def WatchMovedSaid : Prop := watchMovedRow.holds Tryd.pinned (OpenSpec.ofChange watchMovedSpec)

/-- ITS FALSE NEIGHBOUR: 'it returns false'. Refute it at one input. -/
def watchMovedWrong : ChangeSpec := { name := "watchMoved", fn := fun _ => fun
  | [d1, d2, d3] => { results := [.lit (.bool false)], args := [d1, d2, d3] }
  | _ => none }
def WatchMovedWrongFalsely : Prop := watchMovedRow.holds Tryd.pinned (OpenSpec.ofChange watchMovedWrong)

/-- 'paravanelaw06.WatchTruth': WHATEVER THE INPUT: true; the input reads as it did. -/
def watchTruthSpec : ChangeSpec := { name := "watchTruth", fn := fun _ => fun
  | [d1, d2] => { results := [.lit (.bool true)], args := [d1, d2] }
  | _ => none }
def watchTruthRow : OpenClaim := { program := "ytaplkoimhecacaadoor", sum := "a77da692f3369d5ab19d6edb64766f0d380bfc0a87b5345cdb95d252a92fa497", func := "paravane/paravanelaw06.WatchTruth", spec := "watchTruth", unfollowed := true, recurses := true, named := ["paravane/watch.octants", "paravane/watch.first"], plainKeys := false, apart := false, laid := [("paravane/watch.first", laid_paravane_watch_first), ("paravane/watch.octants", laid_paravane_watch_octants)] }
def WatchTruthSaid : Prop := watchTruthRow.holds Tryd.pinned (OpenSpec.ofChange watchTruthSpec)

/-- ITS FALSE NEIGHBOUR: 'it returns false'. Refute it at one input. -/
def watchTruthWrong : ChangeSpec := { name := "watchTruth", fn := fun _ => fun
  | [d1, d2] => { results := [.lit (.bool false)], args := [d1, d2] }
  | _ => none }
def WatchTruthWrongFalsely : Prop := watchTruthRow.holds Tryd.pinned (OpenSpec.ofChange watchTruthWrong)

/-- 'paravanelaw06.WatchHeld': WHATEVER THE INPUT: true; the input reads as it did. -/
def watchHeldSpec : ChangeSpec := { name := "watchHeld", fn := fun _ => fun
  | [d1, d2] => { results := [.lit (.bool true)], args := [d1, d2] }
  | _ => none }
def watchHeldRow : OpenClaim := { program := "ytaplkoimhecacaadoor", sum := "a77da692f3369d5ab19d6edb64766f0d380bfc0a87b5345cdb95d252a92fa497", func := "paravane/paravanelaw06.WatchHeld", spec := "watchHeld", unfollowed := true, recurses := true, named := ["paravane/watch.octants", "paravane/watch.first"], plainKeys := false, apart := false, laid := [("paravane/watch.first", laid_paravane_watch_first), ("paravane/watch.octants", laid_paravane_watch_octants)] }
def WatchHeldSaid : Prop := watchHeldRow.holds Tryd.pinned (OpenSpec.ofChange watchHeldSpec)

/-- ITS FALSE NEIGHBOUR: 'it returns false'. Refute it at one input. -/
def watchHeldWrong : ChangeSpec := { name := "watchHeld", fn := fun _ => fun
  | [d1, d2] => { results := [.lit (.bool false)], args := [d1, d2] }
  | _ => none }
def WatchHeldWrongFalsely : Prop := watchHeldRow.holds Tryd.pinned (OpenSpec.ofChange watchHeldWrong)

/-- 'paravanelaw06.WatchTold': WHATEVER THE INPUT: true; the input reads as it did. -/
def watchToldSpec : ChangeSpec := { name := "watchTold", fn := fun _ => fun
  | [d1, d2] => { results := [.lit (.bool true)], args := [d1, d2] }
  | _ => none }
def watchToldRow : OpenClaim := { program := "ytaplkoimhecacaadoor", sum := "a77da692f3369d5ab19d6edb64766f0d380bfc0a87b5345cdb95d252a92fa497", func := "paravane/paravanelaw06.WatchTold", spec := "watchTold", unfollowed := true, recurses := true, named := ["paravane/watch.octants", "paravane/watch.first"], plainKeys := false, apart := false, laid := [("paravane/watch.first", laid_paravane_watch_first), ("paravane/watch.octants", laid_paravane_watch_octants)] }
def WatchToldSaid : Prop := watchToldRow.holds Tryd.pinned (OpenSpec.ofChange watchToldSpec)

/-- ITS FALSE NEIGHBOUR: 'it returns false'. Refute it at one input. -/
def watchToldWrong : ChangeSpec := { name := "watchTold", fn := fun _ => fun
  | [d1, d2] => { results := [.lit (.bool false)], args := [d1, d2] }
  | _ => none }
def WatchToldWrongFalsely : Prop := watchToldRow.holds Tryd.pinned (OpenSpec.ofChange watchToldWrong)

/- THE SECOND FORM. 'bulk': how many values and letters a reading holds, each counted each time it is reached (what is shared counts as often as it is met; a slice's spare places count too). A statement '..UptoSaid' is the law's where the arguments, and the package variables that the reading takes, are together of bulk at most 1048576: NARROWER than '..Said'. Prove '..Said' where nothing that the law and all that it calls make is longer than what came in: it says more and counts as full. Else prove '..UptoSaid'. A law counts once. -/
mutual
def uptoBulk {H : Type} : DataW H → Nat
  | .lit (.string bytes) => bytes.length + 1
  | .lit _ => 1
  | .nil => 1
  | .ptr d => uptoBulk d + 1
  | .slice elems spare => uptoBulkAll elems + uptoBulkAll spare + 1
  | .agg parts => uptoBulkAll parts + 1
  | .iface _ d => uptoBulk d + 1
  | .map entries => uptoBulkEntries entries + 1
  | .held _ => 1
def uptoBulkAll {H : Type} : List (DataW H) → Nat
  | [] => 0
  | d :: r => uptoBulk d + uptoBulkAll r
def uptoBulkEntries {H : Type} : List (Lit × DataW H) → Nat
  | [] => 0
  | x :: r => uptoBulkEntry x + uptoBulkEntries r
def uptoBulkEntry {H : Type} : Lit × DataW H → Nat
  | (.string bytes, d) => bytes.length + uptoBulk d + 1
  | (_, d) => uptoBulk d + 1
 end
def uptoSmall : (H : Type) → List (DataW H) → Bool := fun _ ds => decide (uptoBulkAll ds ≤ 1048576)
def OpenSpec.upto (s : _root_.Go.ChangeSpec) : _root_.Go.OpenSpec := { _root_.Go.OpenSpec.ofChange s with cond := some uptoSmall }

/-- 'paravanelaw06.WatchGuards', WHERE WHAT IT READS IS OF BULK AT MOST 1048576: true; the input reads as it did. -/
def watchGuardsUptoRow : OpenClaim := { program := "ytaplkoimhecacaadoor", sum := "a77da692f3369d5ab19d6edb64766f0d380bfc0a87b5345cdb95d252a92fa497", func := "paravane/paravanelaw06.WatchGuards", spec := "watchGuards", unfollowed := true, recurses := true, named := ["paravane/watch.octants", "paravane/watch.first"], plainKeys := false, apart := false, laid := [("paravane/watch.first", laid_paravane_watch_first), ("paravane/watch.octants", laid_paravane_watch_octants)], narrowed := true }
def WatchGuardsUptoSaid : Prop := watchGuardsUptoRow.holds Tryd.pinned (OpenSpec.upto watchGuardsSpec)

/-- 'paravanelaw06.WatchSafe', WHERE WHAT IT READS IS OF BULK AT MOST 1048576: true; the input reads as it did. -/
def watchSafeUptoRow : OpenClaim := { program := "ytaplkoimhecacaadoor", sum := "a77da692f3369d5ab19d6edb64766f0d380bfc0a87b5345cdb95d252a92fa497", func := "paravane/paravanelaw06.WatchSafe", spec := "watchSafe", unfollowed := true, recurses := true, named := ["paravane/watch.first", "paravane/watch.octants"], plainKeys := false, apart := false, laid := [("paravane/watch.first", laid_paravane_watch_first), ("paravane/watch.octants", laid_paravane_watch_octants)], narrowed := true }
def WatchSafeUptoSaid : Prop := watchSafeUptoRow.holds Tryd.pinned (OpenSpec.upto watchSafeSpec)

/-- 'paravanelaw06.WatchBetter', WHERE WHAT IT READS IS OF BULK AT MOST 1048576: true; the input reads as it did. -/
def watchBetterUptoRow : OpenClaim := { program := "ytaplkoimhecacaadoor", sum := "a77da692f3369d5ab19d6edb64766f0d380bfc0a87b5345cdb95d252a92fa497", func := "paravane/paravanelaw06.WatchBetter", spec := "watchBetter", unfollowed := true, recurses := true, named := ["paravane/watch.first", "paravane/watch.octants"], plainKeys := false, apart := false, laid := [("paravane/watch.first", laid_paravane_watch_first), ("paravane/watch.octants", laid_paravane_watch_octants)], narrowed := true }
def WatchBetterUptoSaid : Prop := watchBetterUptoRow.holds Tryd.pinned (OpenSpec.upto watchBetterSpec)

/-- 'paravanelaw06.WatchMilder', WHERE WHAT IT READS IS OF BULK AT MOST 1048576: true; the input reads as it did. -/
def watchMilderUptoRow : OpenClaim := { program := "ytaplkoimhecacaadoor", sum := "a77da692f3369d5ab19d6edb64766f0d380bfc0a87b5345cdb95d252a92fa497", func := "paravane/paravanelaw06.WatchMilder", spec := "watchMilder", unfollowed := true, recurses := true, named := ["paravane/watch.octants", "paravane/watch.first"], plainKeys := false, apart := false, laid := [("paravane/watch.first", laid_paravane_watch_first), ("paravane/watch.octants", laid_paravane_watch_octants)], narrowed := true }
def WatchMilderUptoSaid : Prop := watchMilderUptoRow.holds Tryd.pinned (OpenSpec.upto watchMilderSpec)

/-- 'paravanelaw06.WatchNearer', WHERE WHAT IT READS IS OF BULK AT MOST 1048576: true; the input reads as it did. -/
def watchNearerUptoRow : OpenClaim := { program := "ytaplkoimhecacaadoor", sum := "a77da692f3369d5ab19d6edb64766f0d380bfc0a87b5345cdb95d252a92fa497", func := "paravane/paravanelaw06.WatchNearer", spec := "watchNearer", unfollowed := true, recurses := true, named := ["paravane/watch.octants", "paravane/watch.first"], plainKeys := false, apart := false, laid := [("paravane/watch.first", laid_paravane_watch_first), ("paravane/watch.octants", laid_paravane_watch_octants)], narrowed := true }
def WatchNearerUptoSaid : Prop := watchNearerUptoRow.holds Tryd.pinned (OpenSpec.upto watchNearerSpec)

/-- 'paravanelaw06.WatchKnown', WHERE WHAT IT READS IS OF BULK AT MOST 1048576: true; the input reads as it did. -/
def watchKnownUptoRow : OpenClaim := { program := "ytaplkoimhecacaadoor", sum := "a77da692f3369d5ab19d6edb64766f0d380bfc0a87b5345cdb95d252a92fa497", func := "paravane/paravanelaw06.WatchKnown", spec := "watchKnown", unfollowed := true, recurses := true, named := ["paravane/watch.octants", "paravane/watch.first"], plainKeys := false, apart := false, laid := [("paravane/watch.first", laid_paravane_watch_first), ("paravane/watch.octants", laid_paravane_watch_octants)], narrowed := true }
def WatchKnownUptoSaid : Prop := watchKnownUptoRow.holds Tryd.pinned (OpenSpec.upto watchKnownSpec)

/-- 'paravanelaw06.WatchGaps', WHERE WHAT IT READS IS OF BULK AT MOST 1048576: true; the input reads as it did. -/
def watchGapsUptoRow : OpenClaim := { program := "ytaplkoimhecacaadoor", sum := "a77da692f3369d5ab19d6edb64766f0d380bfc0a87b5345cdb95d252a92fa497", func := "paravane/paravanelaw06.WatchGaps", spec := "watchGaps", unfollowed := true, recurses := true, named := ["paravane/watch.octants", "paravane/watch.first"], plainKeys := false, apart := false, laid := [("paravane/watch.first", laid_paravane_watch_first), ("paravane/watch.octants", laid_paravane_watch_octants)], narrowed := true }
def WatchGapsUptoSaid : Prop := watchGapsUptoRow.holds Tryd.pinned (OpenSpec.upto watchGapsSpec)

/-- 'paravanelaw06.WatchGuarded', WHERE WHAT IT READS IS OF BULK AT MOST 1048576: true; the input reads as it did. -/
def watchGuardedUptoRow : OpenClaim := { program := "ytaplkoimhecacaadoor", sum := "a77da692f3369d5ab19d6edb64766f0d380bfc0a87b5345cdb95d252a92fa497", func := "paravane/paravanelaw06.WatchGuarded", spec := "watchGuarded", unfollowed := true, recurses := true, named := ["paravane/watch.octants", "paravane/watch.first"], plainKeys := false, apart := false, laid := [("paravane/watch.first", laid_paravane_watch_first), ("paravane/watch.octants", laid_paravane_watch_octants)], narrowed := true }
def WatchGuardedUptoSaid : Prop := watchGuardedUptoRow.holds Tryd.pinned (OpenSpec.upto watchGuardedSpec)

/-- 'paravanelaw06.WatchMoved', WHERE WHAT IT READS IS OF BULK AT MOST 1048576: true; the input reads as it did. -/
def watchMovedUptoRow : OpenClaim := { program := "ytaplkoimhecacaadoor", sum := "a77da692f3369d5ab19d6edb64766f0d380bfc0a87b5345cdb95d252a92fa497", func := "paravane/paravanelaw06.WatchMoved", spec := "watchMoved", unfollowed := true, recurses := true, named := ["paravane/watch.octants", "paravane/watch.first"], plainKeys := false, apart := false, laid := [("paravane/watch.first", laid_paravane_watch_first), ("paravane/watch.octants", laid_paravane_watch_octants)], narrowed := true }
def WatchMovedUptoSaid : Prop := watchMovedUptoRow.holds Tryd.pinned (OpenSpec.upto watchMovedSpec)

/-- 'paravanelaw06.WatchTruth', WHERE WHAT IT READS IS OF BULK AT MOST 1048576: true; the input reads as it did. -/
def watchTruthUptoRow : OpenClaim := { program := "ytaplkoimhecacaadoor", sum := "a77da692f3369d5ab19d6edb64766f0d380bfc0a87b5345cdb95d252a92fa497", func := "paravane/paravanelaw06.WatchTruth", spec := "watchTruth", unfollowed := true, recurses := true, named := ["paravane/watch.octants", "paravane/watch.first"], plainKeys := false, apart := false, laid := [("paravane/watch.first", laid_paravane_watch_first), ("paravane/watch.octants", laid_paravane_watch_octants)], narrowed := true }
def WatchTruthUptoSaid : Prop := watchTruthUptoRow.holds Tryd.pinned (OpenSpec.upto watchTruthSpec)

/-- 'paravanelaw06.WatchHeld', WHERE WHAT IT READS IS OF BULK AT MOST 1048576: true; the input reads as it did. -/
def watchHeldUptoRow : OpenClaim := { program := "ytaplkoimhecacaadoor", sum := "a77da692f3369d5ab19d6edb64766f0d380bfc0a87b5345cdb95d252a92fa497", func := "paravane/paravanelaw06.WatchHeld", spec := "watchHeld", unfollowed := true, recurses := true, named := ["paravane/watch.octants", "paravane/watch.first"], plainKeys := false, apart := false, laid := [("paravane/watch.first", laid_paravane_watch_first), ("paravane/watch.octants", laid_paravane_watch_octants)], narrowed := true }
def WatchHeldUptoSaid : Prop := watchHeldUptoRow.holds Tryd.pinned (OpenSpec.upto watchHeldSpec)

/-- 'paravanelaw06.WatchTold', WHERE WHAT IT READS IS OF BULK AT MOST 1048576: true; the input reads as it did. -/
def watchToldUptoRow : OpenClaim := { program := "ytaplkoimhecacaadoor", sum := "a77da692f3369d5ab19d6edb64766f0d380bfc0a87b5345cdb95d252a92fa497", func := "paravane/paravanelaw06.WatchTold", spec := "watchTold", unfollowed := true, recurses := true, named := ["paravane/watch.octants", "paravane/watch.first"], plainKeys := false, apart := false, laid := [("paravane/watch.first", laid_paravane_watch_first), ("paravane/watch.octants", laid_paravane_watch_octants)], narrowed := true }
def WatchToldUptoSaid : Prop := watchToldUptoRow.holds Tryd.pinned (OpenSpec.upto watchToldSpec)

end Rows
end Go.Proofs.YtaplkoimhecacaaDoor
