/-
  DERIVED. GIVEN WITH THE SEED: THE CARDS: each row of YtaplkoimhecacaaDoorRows.lean that lists a variable, with what it lists TIED to the program's text (the seventh form; the later family's looks); each row that meets fmt, with fmt's text TOLD by the authors' own Lean function (tested against real Go, not proved from fmt's source: count such statements apart). THE CARD IS WHAT COUNTS. Prove the row's statement (the work); the ties are given (YtaplkoimhecacaaDoorTie.lean); close each card by the builder's one call (the guide's Derived/Test/ToyasCard.lean, 'card_holds'). Laid BY PROGRAM, IN A SANDBOX (cutbox-door.mjs). By AI agents, Wed Nov 11 2026. No macro, syntax, notation, axiom, sorry.
-/
import Derived.Test.YtaplkoimhecacaaDoorRows
import GoSem.ClaimSeven
namespace Go.Proofs.YtaplkoimhecacaaDoor
namespace Rows

/-- THE TIED CARD OF 'paravanelaw06.WatchGuards'. -/
def watchGuardsCard : Claim7 := { stood := { row := watchGuardsRow, standIns := [], harness := (true, "051fffa99e0aa63067a7ba7a81b1841c31cd859f56b6fa81cf12aca7d8e6ff09"), looks := false }, kinds := [], alts := [], laidByText := true, laidKinds := [.data, .funcs], laidTests := true, laidLooks := .later }
def WatchGuardsCardSaid : Prop := Claim7.holds Tryd.pinned (.plain (OpenSpec.ofChange watchGuardsSpec)) watchGuardsCard

/-- THE TIED CARD OF 'paravanelaw06.WatchSafe'. -/
def watchSafeCard : Claim7 := { stood := { row := watchSafeRow, standIns := [], harness := (true, "051fffa99e0aa63067a7ba7a81b1841c31cd859f56b6fa81cf12aca7d8e6ff09"), looks := false }, kinds := [], alts := [], laidByText := true, laidKinds := [.data, .funcs], laidTests := true, laidLooks := .later }
def WatchSafeCardSaid : Prop := Claim7.holds Tryd.pinned (.plain (OpenSpec.ofChange watchSafeSpec)) watchSafeCard

/-- THE TIED CARD OF 'paravanelaw06.WatchBetter'. -/
def watchBetterCard : Claim7 := { stood := { row := watchBetterRow, standIns := [], harness := (true, "051fffa99e0aa63067a7ba7a81b1841c31cd859f56b6fa81cf12aca7d8e6ff09"), looks := false }, kinds := [], alts := [], laidByText := true, laidKinds := [.data, .funcs], laidTests := true, laidLooks := .later }
def WatchBetterCardSaid : Prop := Claim7.holds Tryd.pinned (.plain (OpenSpec.ofChange watchBetterSpec)) watchBetterCard

/-- THE TIED CARD OF 'paravanelaw06.WatchMilder'. -/
def watchMilderCard : Claim7 := { stood := { row := watchMilderRow, standIns := [], harness := (true, "051fffa99e0aa63067a7ba7a81b1841c31cd859f56b6fa81cf12aca7d8e6ff09"), looks := false }, kinds := [], alts := [], laidByText := true, laidKinds := [.data, .funcs], laidTests := true, laidLooks := .later }
def WatchMilderCardSaid : Prop := Claim7.holds Tryd.pinned (.plain (OpenSpec.ofChange watchMilderSpec)) watchMilderCard

/-- THE TIED CARD OF 'paravanelaw06.WatchNearer'. -/
def watchNearerCard : Claim7 := { stood := { row := watchNearerRow, standIns := [], harness := (true, "051fffa99e0aa63067a7ba7a81b1841c31cd859f56b6fa81cf12aca7d8e6ff09"), looks := false }, kinds := [], alts := [], laidByText := true, laidKinds := [.data, .funcs], laidTests := true, laidLooks := .later }
def WatchNearerCardSaid : Prop := Claim7.holds Tryd.pinned (.plain (OpenSpec.ofChange watchNearerSpec)) watchNearerCard

/-- THE TIED CARD OF 'paravanelaw06.WatchKnown'. -/
def watchKnownCard : Claim7 := { stood := { row := watchKnownRow, standIns := [], harness := (true, "051fffa99e0aa63067a7ba7a81b1841c31cd859f56b6fa81cf12aca7d8e6ff09"), looks := false }, kinds := [], alts := [], laidByText := true, laidKinds := [.data, .funcs], laidTests := true, laidLooks := .later }
def WatchKnownCardSaid : Prop := Claim7.holds Tryd.pinned (.plain (OpenSpec.ofChange watchKnownSpec)) watchKnownCard

/-- THE TIED CARD OF 'paravanelaw06.WatchGaps'. -/
def watchGapsCard : Claim7 := { stood := { row := watchGapsRow, standIns := [], harness := (true, "051fffa99e0aa63067a7ba7a81b1841c31cd859f56b6fa81cf12aca7d8e6ff09"), looks := false }, kinds := [], alts := [], laidByText := true, laidKinds := [.data, .funcs], laidTests := true, laidLooks := .later }
def WatchGapsCardSaid : Prop := Claim7.holds Tryd.pinned (.plain (OpenSpec.ofChange watchGapsSpec)) watchGapsCard

/-- THE TIED CARD OF 'paravanelaw06.WatchGuarded'. -/
def watchGuardedCard : Claim7 := { stood := { row := watchGuardedRow, standIns := [], harness := (true, "051fffa99e0aa63067a7ba7a81b1841c31cd859f56b6fa81cf12aca7d8e6ff09"), looks := false }, kinds := [], alts := [], laidByText := true, laidKinds := [.data, .funcs], laidTests := true, laidLooks := .later }
def WatchGuardedCardSaid : Prop := Claim7.holds Tryd.pinned (.plain (OpenSpec.ofChange watchGuardedSpec)) watchGuardedCard

/-- THE TIED CARD OF 'paravanelaw06.WatchMoved'. -/
def watchMovedCard : Claim7 := { stood := { row := watchMovedRow, standIns := [], harness := (true, "051fffa99e0aa63067a7ba7a81b1841c31cd859f56b6fa81cf12aca7d8e6ff09"), looks := false }, kinds := [], alts := [], laidByText := true, laidKinds := [.data, .funcs], laidTests := true, laidLooks := .later }
def WatchMovedCardSaid : Prop := Claim7.holds Tryd.pinned (.plain (OpenSpec.ofChange watchMovedSpec)) watchMovedCard

/-- THE TIED CARD OF 'paravanelaw06.WatchTruth'. -/
def watchTruthCard : Claim7 := { stood := { row := watchTruthRow, standIns := [], harness := (true, "051fffa99e0aa63067a7ba7a81b1841c31cd859f56b6fa81cf12aca7d8e6ff09"), looks := false }, kinds := [], alts := [], laidByText := true, laidKinds := [.data, .funcs], laidTests := true, laidLooks := .later }
def WatchTruthCardSaid : Prop := Claim7.holds Tryd.pinned (.plain (OpenSpec.ofChange watchTruthSpec)) watchTruthCard

/-- THE TIED CARD OF 'paravanelaw06.WatchHeld'. -/
def watchHeldCard : Claim7 := { stood := { row := watchHeldRow, standIns := [], harness := (true, "051fffa99e0aa63067a7ba7a81b1841c31cd859f56b6fa81cf12aca7d8e6ff09"), looks := false }, kinds := [], alts := [], laidByText := true, laidKinds := [.data, .funcs], laidTests := true, laidLooks := .later }
def WatchHeldCardSaid : Prop := Claim7.holds Tryd.pinned (.plain (OpenSpec.ofChange watchHeldSpec)) watchHeldCard

/-- THE TIED CARD OF 'paravanelaw06.WatchTold'. -/
def watchToldCard : Claim7 := { stood := { row := watchToldRow, standIns := [], harness := (true, "051fffa99e0aa63067a7ba7a81b1841c31cd859f56b6fa81cf12aca7d8e6ff09"), looks := false }, kinds := [], alts := [], laidByText := true, laidKinds := [.data, .funcs], laidTests := true, laidLooks := .later }
def WatchToldCardSaid : Prop := Claim7.holds Tryd.pinned (.plain (OpenSpec.ofChange watchToldSpec)) watchToldCard

/-- THE SECOND FORM's CARD OF 'paravanelaw06.WatchGuards'. -/
def watchGuardsUptoCard : Claim7 := { stood := { row := watchGuardsUptoRow, standIns := [], harness := (true, "051fffa99e0aa63067a7ba7a81b1841c31cd859f56b6fa81cf12aca7d8e6ff09"), looks := false }, kinds := [], alts := [], laidByText := true, laidKinds := [.data, .funcs], laidTests := true, laidLooks := .later }
def WatchGuardsUptoCardSaid : Prop := Claim7.holds Tryd.pinned (.plain (OpenSpec.upto watchGuardsSpec)) watchGuardsUptoCard

/-- THE SECOND FORM's CARD OF 'paravanelaw06.WatchSafe'. -/
def watchSafeUptoCard : Claim7 := { stood := { row := watchSafeUptoRow, standIns := [], harness := (true, "051fffa99e0aa63067a7ba7a81b1841c31cd859f56b6fa81cf12aca7d8e6ff09"), looks := false }, kinds := [], alts := [], laidByText := true, laidKinds := [.data, .funcs], laidTests := true, laidLooks := .later }
def WatchSafeUptoCardSaid : Prop := Claim7.holds Tryd.pinned (.plain (OpenSpec.upto watchSafeSpec)) watchSafeUptoCard

/-- THE SECOND FORM's CARD OF 'paravanelaw06.WatchBetter'. -/
def watchBetterUptoCard : Claim7 := { stood := { row := watchBetterUptoRow, standIns := [], harness := (true, "051fffa99e0aa63067a7ba7a81b1841c31cd859f56b6fa81cf12aca7d8e6ff09"), looks := false }, kinds := [], alts := [], laidByText := true, laidKinds := [.data, .funcs], laidTests := true, laidLooks := .later }
def WatchBetterUptoCardSaid : Prop := Claim7.holds Tryd.pinned (.plain (OpenSpec.upto watchBetterSpec)) watchBetterUptoCard

/-- THE SECOND FORM's CARD OF 'paravanelaw06.WatchMilder'. -/
def watchMilderUptoCard : Claim7 := { stood := { row := watchMilderUptoRow, standIns := [], harness := (true, "051fffa99e0aa63067a7ba7a81b1841c31cd859f56b6fa81cf12aca7d8e6ff09"), looks := false }, kinds := [], alts := [], laidByText := true, laidKinds := [.data, .funcs], laidTests := true, laidLooks := .later }
def WatchMilderUptoCardSaid : Prop := Claim7.holds Tryd.pinned (.plain (OpenSpec.upto watchMilderSpec)) watchMilderUptoCard

/-- THE SECOND FORM's CARD OF 'paravanelaw06.WatchNearer'. -/
def watchNearerUptoCard : Claim7 := { stood := { row := watchNearerUptoRow, standIns := [], harness := (true, "051fffa99e0aa63067a7ba7a81b1841c31cd859f56b6fa81cf12aca7d8e6ff09"), looks := false }, kinds := [], alts := [], laidByText := true, laidKinds := [.data, .funcs], laidTests := true, laidLooks := .later }
def WatchNearerUptoCardSaid : Prop := Claim7.holds Tryd.pinned (.plain (OpenSpec.upto watchNearerSpec)) watchNearerUptoCard

/-- THE SECOND FORM's CARD OF 'paravanelaw06.WatchKnown'. -/
def watchKnownUptoCard : Claim7 := { stood := { row := watchKnownUptoRow, standIns := [], harness := (true, "051fffa99e0aa63067a7ba7a81b1841c31cd859f56b6fa81cf12aca7d8e6ff09"), looks := false }, kinds := [], alts := [], laidByText := true, laidKinds := [.data, .funcs], laidTests := true, laidLooks := .later }
def WatchKnownUptoCardSaid : Prop := Claim7.holds Tryd.pinned (.plain (OpenSpec.upto watchKnownSpec)) watchKnownUptoCard

/-- THE SECOND FORM's CARD OF 'paravanelaw06.WatchGaps'. -/
def watchGapsUptoCard : Claim7 := { stood := { row := watchGapsUptoRow, standIns := [], harness := (true, "051fffa99e0aa63067a7ba7a81b1841c31cd859f56b6fa81cf12aca7d8e6ff09"), looks := false }, kinds := [], alts := [], laidByText := true, laidKinds := [.data, .funcs], laidTests := true, laidLooks := .later }
def WatchGapsUptoCardSaid : Prop := Claim7.holds Tryd.pinned (.plain (OpenSpec.upto watchGapsSpec)) watchGapsUptoCard

/-- THE SECOND FORM's CARD OF 'paravanelaw06.WatchGuarded'. -/
def watchGuardedUptoCard : Claim7 := { stood := { row := watchGuardedUptoRow, standIns := [], harness := (true, "051fffa99e0aa63067a7ba7a81b1841c31cd859f56b6fa81cf12aca7d8e6ff09"), looks := false }, kinds := [], alts := [], laidByText := true, laidKinds := [.data, .funcs], laidTests := true, laidLooks := .later }
def WatchGuardedUptoCardSaid : Prop := Claim7.holds Tryd.pinned (.plain (OpenSpec.upto watchGuardedSpec)) watchGuardedUptoCard

/-- THE SECOND FORM's CARD OF 'paravanelaw06.WatchMoved'. -/
def watchMovedUptoCard : Claim7 := { stood := { row := watchMovedUptoRow, standIns := [], harness := (true, "051fffa99e0aa63067a7ba7a81b1841c31cd859f56b6fa81cf12aca7d8e6ff09"), looks := false }, kinds := [], alts := [], laidByText := true, laidKinds := [.data, .funcs], laidTests := true, laidLooks := .later }
def WatchMovedUptoCardSaid : Prop := Claim7.holds Tryd.pinned (.plain (OpenSpec.upto watchMovedSpec)) watchMovedUptoCard

/-- THE SECOND FORM's CARD OF 'paravanelaw06.WatchTruth'. -/
def watchTruthUptoCard : Claim7 := { stood := { row := watchTruthUptoRow, standIns := [], harness := (true, "051fffa99e0aa63067a7ba7a81b1841c31cd859f56b6fa81cf12aca7d8e6ff09"), looks := false }, kinds := [], alts := [], laidByText := true, laidKinds := [.data, .funcs], laidTests := true, laidLooks := .later }
def WatchTruthUptoCardSaid : Prop := Claim7.holds Tryd.pinned (.plain (OpenSpec.upto watchTruthSpec)) watchTruthUptoCard

/-- THE SECOND FORM's CARD OF 'paravanelaw06.WatchHeld'. -/
def watchHeldUptoCard : Claim7 := { stood := { row := watchHeldUptoRow, standIns := [], harness := (true, "051fffa99e0aa63067a7ba7a81b1841c31cd859f56b6fa81cf12aca7d8e6ff09"), looks := false }, kinds := [], alts := [], laidByText := true, laidKinds := [.data, .funcs], laidTests := true, laidLooks := .later }
def WatchHeldUptoCardSaid : Prop := Claim7.holds Tryd.pinned (.plain (OpenSpec.upto watchHeldSpec)) watchHeldUptoCard

/-- THE SECOND FORM's CARD OF 'paravanelaw06.WatchTold'. -/
def watchToldUptoCard : Claim7 := { stood := { row := watchToldUptoRow, standIns := [], harness := (true, "051fffa99e0aa63067a7ba7a81b1841c31cd859f56b6fa81cf12aca7d8e6ff09"), looks := false }, kinds := [], alts := [], laidByText := true, laidKinds := [.data, .funcs], laidTests := true, laidLooks := .later }
def WatchToldUptoCardSaid : Prop := Claim7.holds Tryd.pinned (.plain (OpenSpec.upto watchToldSpec)) watchToldUptoCard
end Rows
end Go.Proofs.YtaplkoimhecacaaDoor
