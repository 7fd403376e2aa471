/-
  NARROWER THAN 'FOR EVERY INPUT', by the rows' own cells (each row's printed sentence says how): TopFar: laid · TopSilent: laid.
  DERIVED. THE GIVEN ROWS OF THIS SEAT. 2 by the template 'for every input the law returns true; each argument reads behind the call as it read before'; 0 by the template 'total and deterministic' (their statements: YtmfmecgiaekelaaGreatDoorTotals.lean).
  GIVEN WITH THE SEED: the statements are not yours to turn. If you find one false, say at which input.
  Laid BY PROGRAM, IN A SANDBOX (cutbox-rows.mjs): the forced cells as the released guide's own fill.sh prints them over the translation 1d0d8904bf8f376d… (all of the seat's roots in one cut). By AI agents, Wed Nov 11 2026. No macro, syntax, notation, axiom, sorry.
-/
import Derived.Test.YtmfmecgiaekelaaGreatDoorChecked
import GoSem.Claim
import GoSem.ClaimJoined
import GoSem.ClaimMapViews
import Derived.JoinedTies
import Derived.KernelRfl
namespace Go.Proofs.YtmfmecgiaekelaaGreatDoor
/- THE CELL 'sum', in the pinned program and in every row, IS THE sha256 OF THE DUMP (.gsa) THAT YtmfmecgiaekelaaGreatDoorProg.lean LOADS. Nothing in Lean hashes anything: it is a label: what it is worth is what the hold of that sum in a sandbox is worth. -/
noncomputable def Tryz.pinned : Pinned := { name := "ytmfmecgiaekelaagreatdoor", sum := "1d0d8904bf8f376d61896e0b85c01549227548e5f84730ff99fa0905f3334c6f", checked := Tryz.checked }
namespace Rows
def none {H : Type} : Left H := { results := [], args := [] }

/- WHAT THE LISTED PACKAGE-LEVEL VARIABLES READ AS WHEN THE CALL BEGINS. Each datum BY PROGRAM (the guide's laid-datum.mjs) off the statement by which the dump's own 'gosem.cut.vars' lays the variable. In a bare row this is a premise. The card (YtmfmecgiaekelaaGreatDoorCards.lean) ties it to the program's text. -/
def laid_paravane_watch_first {H : Type} : DataW H := .agg [.lit (.int .i64 0), .lit (.int .i64 (-1))]
def laid_paravane_watch_octants {H : Type} : DataW H := .iface "func table" (.agg [.iface "func" (.lit (.string [40, 112, 97, 114, 97, 118, 97, 110, 101, 47, 119, 97, 116, 99, 104, 46, 99, 111, 110, 101, 41, 46, 111, 99, 116, 97, 110, 116, 48])), .iface "func" (.lit (.string [40, 112, 97, 114, 97, 118, 97, 110, 101, 47, 119, 97, 116, 99, 104, 46, 99, 111, 110, 101, 41, 46, 111, 99, 116, 97, 110, 116, 49])), .iface "func" (.lit (.string [40, 112, 97, 114, 97, 118, 97, 110, 101, 47, 119, 97, 116, 99, 104, 46, 99, 111, 110, 101, 41, 46, 111, 99, 116, 97, 110, 116, 50])), .iface "func" (.lit (.string [40, 112, 97, 114, 97, 118, 97, 110, 101, 47, 119, 97, 116, 99, 104, 46, 99, 111, 110, 101, 41, 46, 111, 99, 116, 97, 110, 116, 51])), .iface "func" (.lit (.string [40, 112, 97, 114, 97, 118, 97, 110, 101, 47, 119, 97, 116, 99, 104, 46, 99, 111, 110, 101, 41, 46, 111, 99, 116, 97, 110, 116, 52])), .iface "func" (.lit (.string [40, 112, 97, 114, 97, 118, 97, 110, 101, 47, 119, 97, 116, 99, 104, 46, 99, 111, 110, 101, 41, 46, 111, 99, 116, 97, 110, 116, 53])), .iface "func" (.lit (.string [40, 112, 97, 114, 97, 118, 97, 110, 101, 47, 119, 97, 116, 99, 104, 46, 99, 111, 110, 101, 41, 46, 111, 99, 116, 97, 110, 116, 54])), .iface "func" (.lit (.string [40, 112, 97, 114, 97, 118, 97, 110, 101, 47, 119, 97, 116, 99, 104, 46, 99, 111, 110, 101, 41, 46, 111, 99, 116, 97, 110, 116, 55]))])

/-- 'paravanetop.TopFar': WHATEVER THE INPUT: true; the input reads as it did. -/
def topFarSpec : ChangeSpec := { name := "topFar", fn := fun _ => fun
  | [d1, d2, d3] => { results := [.lit (.bool true)], args := [d1, d2, d3] }
  | _ => none }
def topFarRow : OpenClaim := { program := "ytmfmecgiaekelaagreatdoor", sum := "1d0d8904bf8f376d61896e0b85c01549227548e5f84730ff99fa0905f3334c6f", func := "paravane/paravanetop.TopFar", spec := "topFar", unfollowed := true, recurses := true, named := ["paravane/watch.first", "paravane/watch.octants"], plainKeys := false, apart := false, laid := [("paravane/watch.first", laid_paravane_watch_first), ("paravane/watch.octants", laid_paravane_watch_octants)] }
def TopFarSaid : Prop := topFarRow.holds Tryz.pinned (OpenSpec.ofChange topFarSpec)

/-- ITS FALSE NEIGHBOUR: 'it returns false'. Refute it at one input. -/
def topFarWrong : ChangeSpec := { name := "topFar", fn := fun _ => fun
  | [d1, d2, d3] => { results := [.lit (.bool false)], args := [d1, d2, d3] }
  | _ => none }
def TopFarWrongFalsely : Prop := topFarRow.holds Tryz.pinned (OpenSpec.ofChange topFarWrong)

/-- 'paravanetop.TopSilent': WHATEVER THE INPUT: true; the input reads as it did. -/
def topSilentSpec : ChangeSpec := { name := "topSilent", fn := fun _ => fun
  | [d1, d2, d3] => { results := [.lit (.bool true)], args := [d1, d2, d3] }
  | _ => none }
def topSilentRow : OpenClaim := { program := "ytmfmecgiaekelaagreatdoor", sum := "1d0d8904bf8f376d61896e0b85c01549227548e5f84730ff99fa0905f3334c6f", func := "paravane/paravanetop.TopSilent", spec := "topSilent", unfollowed := true, recurses := true, named := ["paravane/watch.first", "paravane/watch.octants"], plainKeys := false, apart := false, laid := [("paravane/watch.first", laid_paravane_watch_first), ("paravane/watch.octants", laid_paravane_watch_octants)] }
def TopSilentSaid : Prop := topSilentRow.holds Tryz.pinned (OpenSpec.ofChange topSilentSpec)

/-- ITS FALSE NEIGHBOUR: 'it returns false'. Refute it at one input. -/
def topSilentWrong : ChangeSpec := { name := "topSilent", fn := fun _ => fun
  | [d1, d2, d3] => { results := [.lit (.bool false)], args := [d1, d2, d3] }
  | _ => none }
def TopSilentWrongFalsely : Prop := topSilentRow.holds Tryz.pinned (OpenSpec.ofChange topSilentWrong)

/- THE SECOND FORM. 'bulk': how many values and letters a reading holds, each counted each time it is reached (what is shared counts as often as it is met; a slice's spare places count too). A statement '..UptoSaid' is the law's where the arguments, and the package variables that the reading takes, are together of bulk at most 1048576: NARROWER than '..Said'. Prove '..Said' where nothing that the law and all that it calls make is longer than what came in: it says more and counts as full. Else prove '..UptoSaid'. A law counts once. -/
mutual
def uptoBulk {H : Type} : DataW H → Nat
  | .lit (.string bytes) => bytes.length + 1
  | .lit _ => 1
  | .nil => 1
  | .ptr d => uptoBulk d + 1
  | .slice elems spare => uptoBulkAll elems + uptoBulkAll spare + 1
  | .agg parts => uptoBulkAll parts + 1
  | .iface _ d => uptoBulk d + 1
  | .map entries => uptoBulkEntries entries + 1
  | .held _ => 1
def uptoBulkAll {H : Type} : List (DataW H) → Nat
  | [] => 0
  | d :: r => uptoBulk d + uptoBulkAll r
def uptoBulkEntries {H : Type} : List (Lit × DataW H) → Nat
  | [] => 0
  | x :: r => uptoBulkEntry x + uptoBulkEntries r
def uptoBulkEntry {H : Type} : Lit × DataW H → Nat
  | (.string bytes, d) => bytes.length + uptoBulk d + 1
  | (_, d) => uptoBulk d + 1
 end
def uptoSmall : (H : Type) → List (DataW H) → Bool := fun _ ds => decide (uptoBulkAll ds ≤ 1048576)
def OpenSpec.upto (s : _root_.Go.ChangeSpec) : _root_.Go.OpenSpec := { _root_.Go.OpenSpec.ofChange s with cond := some uptoSmall }

/-- 'paravanetop.TopFar', WHERE WHAT IT READS IS OF BULK AT MOST 1048576: true; the input reads as it did. -/
def topFarUptoRow : OpenClaim := { program := "ytmfmecgiaekelaagreatdoor", sum := "1d0d8904bf8f376d61896e0b85c01549227548e5f84730ff99fa0905f3334c6f", func := "paravane/paravanetop.TopFar", spec := "topFar", unfollowed := true, recurses := true, named := ["paravane/watch.first", "paravane/watch.octants"], plainKeys := false, apart := false, laid := [("paravane/watch.first", laid_paravane_watch_first), ("paravane/watch.octants", laid_paravane_watch_octants)], narrowed := true }
def TopFarUptoSaid : Prop := topFarUptoRow.holds Tryz.pinned (OpenSpec.upto topFarSpec)

/-- 'paravanetop.TopSilent', WHERE WHAT IT READS IS OF BULK AT MOST 1048576: true; the input reads as it did. -/
def topSilentUptoRow : OpenClaim := { program := "ytmfmecgiaekelaagreatdoor", sum := "1d0d8904bf8f376d61896e0b85c01549227548e5f84730ff99fa0905f3334c6f", func := "paravane/paravanetop.TopSilent", spec := "topSilent", unfollowed := true, recurses := true, named := ["paravane/watch.first", "paravane/watch.octants"], plainKeys := false, apart := false, laid := [("paravane/watch.first", laid_paravane_watch_first), ("paravane/watch.octants", laid_paravane_watch_octants)], narrowed := true }
def TopSilentUptoSaid : Prop := topSilentUptoRow.holds Tryz.pinned (OpenSpec.upto topSilentSpec)

end Rows
end Go.Proofs.YtmfmecgiaekelaaGreatDoor
