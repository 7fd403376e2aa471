/-
  DERIVED. GIVEN WITH THE SEED: THE CARDS: each row of YtmfmecgiaekelaaGreatDoorRows.lean that lists a variable, with what it lists TIED to the program's text (the seventh form; the later family's looks); each row that meets fmt, with fmt's text TOLD by the authors' own Lean function (tested against real Go, not proved from fmt's source: count such statements apart). THE CARD IS WHAT COUNTS. Prove the row's statement (the work); the ties are given (YtmfmecgiaekelaaGreatDoorTie.lean); close each card by the builder's one call (the guide's Derived/Test/ToyasCard.lean, 'card_holds'). Laid BY PROGRAM, IN A SANDBOX (cutbox-door.mjs). By AI agents, Wed Nov 11 2026. No macro, syntax, notation, axiom, sorry.
-/
import Derived.Test.YtmfmecgiaekelaaGreatDoorRows
import GoSem.ClaimSeven
namespace Go.Proofs.YtmfmecgiaekelaaGreatDoor
namespace Rows

/-- THE TIED CARD OF 'paravanetop.TopFar'. -/
def topFarCard : Claim7 := { stood := { row := topFarRow, standIns := [], harness := (true, "68293e9a6648cdbef1ea406bd8533752a3fddb08037528890606c66b8e938c7d"), looks := true }, kinds := [], alts := [], laidByText := true, laidKinds := [.data, .funcs], laidTests := true, laidLooks := .later }
def TopFarCardSaid : Prop := Claim7.holds Tryz.pinned (.plain (OpenSpec.ofChange topFarSpec)) topFarCard

/-- THE TIED CARD OF 'paravanetop.TopSilent'. -/
def topSilentCard : Claim7 := { stood := { row := topSilentRow, standIns := [], harness := (true, "68293e9a6648cdbef1ea406bd8533752a3fddb08037528890606c66b8e938c7d"), looks := true }, kinds := [], alts := [], laidByText := true, laidKinds := [.data, .funcs], laidTests := true, laidLooks := .later }
def TopSilentCardSaid : Prop := Claim7.holds Tryz.pinned (.plain (OpenSpec.ofChange topSilentSpec)) topSilentCard

/-- THE SECOND FORM's CARD OF 'paravanetop.TopFar'. -/
def topFarUptoCard : Claim7 := { stood := { row := topFarUptoRow, standIns := [], harness := (true, "68293e9a6648cdbef1ea406bd8533752a3fddb08037528890606c66b8e938c7d"), looks := true }, kinds := [], alts := [], laidByText := true, laidKinds := [.data, .funcs], laidTests := true, laidLooks := .later }
def TopFarUptoCardSaid : Prop := Claim7.holds Tryz.pinned (.plain (OpenSpec.upto topFarSpec)) topFarUptoCard

/-- THE SECOND FORM's CARD OF 'paravanetop.TopSilent'. -/
def topSilentUptoCard : Claim7 := { stood := { row := topSilentUptoRow, standIns := [], harness := (true, "68293e9a6648cdbef1ea406bd8533752a3fddb08037528890606c66b8e938c7d"), looks := true }, kinds := [], alts := [], laidByText := true, laidKinds := [.data, .funcs], laidTests := true, laidLooks := .later }
def TopSilentUptoCardSaid : Prop := Claim7.holds Tryz.pinned (.plain (OpenSpec.upto topSilentSpec)) topSilentUptoCard
end Rows
end Go.Proofs.YtmfmecgiaekelaaGreatDoor
