/-
  WatchKnown: what the chapter says of single scenes, for every input. The row lists the package's two variables with what the program's text lays (the card ties them); no other condition.
-/
import Derived.Test.YtaplkoimhecacaaDoorCards
import Derived.Test.YtaplkoimhecacaaDoorTkn1
namespace Go.Proofs.YtaplkoimhecacaaDoor
open Go
set_option maxRecDepth 100000
open Go.ChangeShapes Go.WideShapes Go.ChangeAt Go.RowKit
set_option maxRecDepth 100000 in
theorem lifted_WatchKnown (os : Os) (started : os.Started) (HH : Type) (enc : TypeId × Value → HH) :
    ReturnsInHanded {} Tryd.checked os 8 .any (fun w args => (Rows.watchKnownSpec.pre enc Tryd.prog Tryd.f8 Rows.watchKnownRow.domain false w args ∧ laidMetH Tryd.prog laidL w) ∧ sizedMet enc Tryd.prog Tryd.f8 (OpenSpec.ofChange Rows.watchKnownSpec) false w args) (Rows.watchKnownSpec.post enc Tryd.prog Tryd.f8 false true false false) := by
  refine returnsInHanded_of_change_and (C := Tryd.checked) (X := fun w _ => laidMetH Tryd.prog laidL w) (fun _ _ _ hh h => h.of_heap hh) Tryd.ownK started (by kernel_rfl) Tryd.func8
    (ChangeSpec.witness_shaped (enc := enc) (C := Tryd.checked) (os := os) (X := fun w _ => laidMetH Tryd.prog laidL w) false (World.doorLaid Tryd.prog 19 os) #[] 8 rfl (World.shaped_of_RefB (by kernel_rfl) (by kernel_rfl)) (by kernel_rfl) (by kernel_rfl) (by kernel_rfl) (door_met os _)) ?_
  intro W base args ds gs before hval0 hW _ _ hL _
  have hval : ∀ (j : Nat) t v, Tryd.f8.params[j]? = some t → args[j]? = some v → Value.okWide Tryd.prog W .any base t v := hval0
  have hW' := hW
  obtain ⟨p, q, hA0, hV, rfl, hfz, hnd⟩ := hW
  have hA : DataW.TrodAll enc Tryd.prog W 0 (fun _ => true) true Tryd.f8.params.toList args.toList ds p := hA0
  rw [Tryd.params8] at hA hval
  have hAk := hA
  have hlt : ∀ x ∈ p, x.block < W.heap.size := fun x hx => hW'.lt x (List.mem_append_left _ hx)
  obtain ⟨rfl, rfl⟩ := trodVars_none hV
  haveI hgl : Glob (allH W) := glob_of hL
  obtain ⟨hargs, rfl, rfl⟩ := Go.ChangeShapes.trodAll_nil hA
  obtain rfl : args = #[] := by apply Array.ext'; simpa using hargs
  refine (calls_of ((w_Known (allH W)).mono fun o H' ⟨h1, h2⟩ => ⟨h1, [], h2⟩)).mono fun e W' ⟨he, bel⟩ => ?_
  subst he
  exact ⟨_, rfl, _, _, _, [], _, [], hW', trodAll_mk1 (shut_bool Tryd.underlying4 _), trodAll_below Tryd.laidOutK bel (by decide +kernel) hlt hAk, rfl, bel.frame _, fun h => by cases h⟩
theorem i0_WatchKnown : (Rows.watchKnownRow.inPlace == Tryd.prog.inPlace 8) = true := by kernel_rfl
theorem i1_WatchKnown : (Rows.watchKnownRow.unfollowed == Tryd.prog.unfollowed 8) = true := by kernel_rfl
theorem i2_WatchKnown : (Rows.watchKnownRow.recurses == Tryd.prog.recurses 8) = true := by kernel_rfl
theorem i3_WatchKnown : (Rows.watchKnownRow.named == Tryd.prog.varsNamed 8) = true := by kernel_rfl
theorem fn_WatchKnown : Tryd.prog.funcNamed Rows.watchKnownRow.func = some 8 := by kernel_rfl
theorem rest_WatchKnown : restFacts Tryd.prog Tryd.f8 Rows.watchKnownSpec Rows.watchKnownRow = true := by kernel_rfl
theorem wrap_WatchKnown : Tryd.f8.isWrapper Tryd.prog Rows.watchKnownRow.wrapper Rows.watchKnownRow.mainSum := by unfold Func.isWrapper; rw [if_neg (of_decide_eq_false (by kernel_rfl))]; exact ⟨rfl, rfl⟩
theorem inst_WatchKnown : Tryd.f8.isInstance Tryd.prog Rows.watchKnownRow.origin Rows.watchKnownRow.targs := of_decide_eq_true (by kernel_rfl)
theorem row_WatchKnown : Rows.WatchKnownSaid :=
  OpenClaim.holds_of_wide 8 Tryd.f8 rfl rfl rfl rfl rfl rfl rfl ⟨rfl, rfl, rfl, rfl, rfl⟩ rfl rfl rfl rfl rfl fn_WatchKnown Tryd.func8
    (joined_of Tryd.laidOutK Tryd.mapsK Tryd.stopsK Tryd.knobsK (by kernel_rfl) Tryd.heardK i0_WatchKnown i1_WatchKnown i2_WatchKnown i3_WatchKnown rest_WatchKnown rfl rfl Tryd.enterK Tryd.liftsK Tryd.makeK (by kernel_rfl))
    inst_WatchKnown wrap_WatchKnown
    (fun os started HH enc _ => lifted_WatchKnown os started HH enc)
/-- **The given statement.** -/
theorem holds_WatchKnown : Rows.WatchKnownCardSaid :=
  Claim7.holds_tied_plain_at .later [] [.data, .funcs] true (true, "051fffa99e0aa63067a7ba7a81b1841c31cd859f56b6fa81cf12aca7d8e6ff09") false
    row_WatchKnown (fun _ h => by cases h) (by kernel_rfl) (fun _ h => by cases h) watchKnown_row_tie rfl ⟨rfl, rfl⟩ (by kernel_rfl) rfl
    (fun f fn hf hfn => by
      obtain rfl : f = 8 := Option.some.inj (fn_WatchKnown.symm.trans hf) |>.symm
      obtain rfl : fn = Tryd.f8 := (Option.some.inj (Tryd.func8.symm.trans hfn)).symm
      exact ⟨by kernel_rfl, fun j t ht => by
        rw [Tryd.params8] at ht
        simp at ht⟩)
    (by kernel_rfl)
end Go.Proofs.YtaplkoimhecacaaDoor
