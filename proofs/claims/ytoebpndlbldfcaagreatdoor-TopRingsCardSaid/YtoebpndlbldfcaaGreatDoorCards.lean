/-
  DERIVED. GIVEN WITH THE SEED: THE CARDS: each row of YtoebpndlbldfcaaGreatDoorRows.lean that lists a variable, with what it lists TIED to the program's text (the seventh form; the later family's looks); each row that meets fmt, with fmt's text TOLD by the authors' own Lean function (tested against real Go, not proved from fmt's source: count such statements apart). THE CARD IS WHAT COUNTS. Prove the row's statement (the work); the ties are given (YtoebpndlbldfcaaGreatDoorTie.lean); close each card by the builder's one call (the guide's Derived/Test/ToyasCard.lean, 'card_holds'). Laid BY PROGRAM, IN A SANDBOX (cutbox-door.mjs). By AI agents, Wed Nov 11 2026. No macro, syntax, notation, axiom, sorry.
-/
import Derived.Test.YtoebpndlbldfcaaGreatDoorRows
import GoSem.ClaimSeven
namespace Go.Proofs.YtoebpndlbldfcaaGreatDoor
namespace Rows

/-- THE TIED CARD OF 'paravanetop.TopRings'. -/
def topRingsCard : Claim7 := { stood := { row := topRingsRow, standIns := [], harness := (true, "90d284d430f7342dd95053820ebadf13afd8a44229f558074be5fe05ed351343"), looks := true }, kinds := [], alts := [], laidByText := true, laidKinds := [.data, .data, .data, .data, .data, .funcs], laidTests := true, laidLooks := .later }
def TopRingsCardSaid : Prop := Claim7.holds Tryz.pinned (.plain (OpenSpec.ofChange topRingsSpec)) topRingsCard

/-- THE SECOND FORM's CARD OF 'paravanetop.TopRings'. -/
def topRingsUptoCard : Claim7 := { stood := { row := topRingsUptoRow, standIns := [], harness := (true, "90d284d430f7342dd95053820ebadf13afd8a44229f558074be5fe05ed351343"), looks := true }, kinds := [], alts := [], laidByText := true, laidKinds := [.data, .data, .data, .data, .data, .funcs], laidTests := true, laidLooks := .later }
def TopRingsUptoCardSaid : Prop := Claim7.holds Tryz.pinned (.plain (OpenSpec.upto topRingsSpec)) topRingsUptoCard
end Rows
end Go.Proofs.YtoebpndlbldfcaaGreatDoor
