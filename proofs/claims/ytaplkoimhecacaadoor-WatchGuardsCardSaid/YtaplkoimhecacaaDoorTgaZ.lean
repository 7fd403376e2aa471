/-
  WatchGuards: the program's Guard answers as the reference does, and the examples hold; for every input. The row lists the package's two variables with what the program's text lays (the card ties them); no other condition.
-/
import Derived.Test.YtaplkoimhecacaaDoorCards
import Derived.Test.YtaplkoimhecacaaDoorTga1
namespace Go.Proofs.YtaplkoimhecacaaDoor
open Go
set_option maxRecDepth 100000
open Go.ChangeShapes Go.WideShapes Go.ChangeAt Go.RowKit
set_option maxRecDepth 100000 in
theorem lifted_WatchGuards (os : Os) (started : os.Started) (HH : Type) (enc : TypeId × Value → HH) :
    ReturnsInHanded {} Tryd.checked os 3 .any (fun w args => (Rows.watchGuardsSpec.pre enc Tryd.prog Tryd.f3 Rows.watchGuardsRow.domain false w args ∧ laidMetH Tryd.prog laidL w) ∧ sizedMet enc Tryd.prog Tryd.f3 (OpenSpec.ofChange Rows.watchGuardsSpec) false w args) (Rows.watchGuardsSpec.post enc Tryd.prog Tryd.f3 false true false false) := by
  refine returnsInHanded_of_change_and (C := Tryd.checked) (X := fun w _ => laidMetH Tryd.prog laidL w) (fun _ _ _ hh h => h.of_heap hh) Tryd.ownK started (by kernel_rfl) Tryd.func3
    (ChangeSpec.witness_shaped (enc := enc) (C := Tryd.checked) (os := os) (X := fun w _ => laidMetH Tryd.prog laidL w) false (World.doorLaid Tryd.prog 19 os) #[.agg #[.int .i64 0, .int .i64 0, .int .i64 0, .int .i64 0, .int .i64 0, .int .i64 0, .int .i64 0], .int .i64 0, .int .i64 0] 8 rfl (World.shaped_of_RefB (by kernel_rfl) (by kernel_rfl)) (by kernel_rfl) (by kernel_rfl) (by kernel_rfl) (door_met os _)) ?_
  intro W base args ds gs before hval0 hW _ _ hL _
  have hval : ∀ (j : Nat) t v, Tryd.f3.params[j]? = some t → args[j]? = some v → Value.okWide Tryd.prog W .any base t v := hval0
  have hW' := hW
  obtain ⟨p, q, hA0, hV, rfl, hfz, hnd⟩ := hW
  have hA : DataW.TrodAll enc Tryd.prog W 0 (fun _ => true) true Tryd.f3.params.toList args.toList ds p := hA0
  rw [Tryd.params3] at hA hval
  have hAk := hA
  have hlt : ∀ x ∈ p, x.block < W.heap.size := fun x hx => hW'.lt x (List.mem_append_left _ hx)
  obtain ⟨rfl, rfl⟩ := trodVars_none hV
  haveI hgl : Glob (allH W) := glob_of hL
  obtain ⟨v0, vs0, d0, ds0, p0, q0, hargs, rfl, rfl, h0, r0⟩ := Go.ChangeShapes.trodAll_cons hA
  obtain ⟨v1, vs1, d1, ds1, p1, q1, rfl, rfl, rfl, h1, r1⟩ := Go.ChangeShapes.trodAll_cons r0
  obtain ⟨v2, vs2, d2, ds2, p2, q2, rfl, rfl, rfl, h2, r2⟩ := Go.ChangeShapes.trodAll_cons r1
  obtain ⟨rfl, rfl, rfl⟩ := Go.ChangeShapes.trodAll_nil r2
  obtain rfl : args = #[v0, v1, v2] := by apply Array.ext'; simpa using hargs
  obtain ⟨a0, a1, a2, a3, a4, a5, a6, rfl, _⟩ := rd_23 h0 (hval 0 23 v0 rfl rfl)
  obtain ⟨x, rfl, rfl, rfl, _⟩ := Go.ChangeShapes.open_int Tryd.underlying3 (hval 1 3 v1 rfl rfl) h1
  obtain ⟨y, rfl, rfl, rfl, _⟩ := Go.ChangeShapes.open_int Tryd.underlying3 (hval 2 3 v2 rfl rfl) h2
  refine (calls_of ((w_Guards ⟨a0, a1, a2, a3, a4, a5, a6⟩ x y (allH W)).mono fun o H' ⟨h1, h2⟩ => ⟨h1, [], h2⟩)).mono fun e W' ⟨he, bel⟩ => ?_
  subst he
  exact ⟨_, rfl, _, _, _, [], _, [], hW', trodAll_mk1 (shut_bool Tryd.underlying4 _), trodAll_below Tryd.laidOutK bel (by decide +kernel) hlt hAk, rfl, bel.frame _, fun h => by cases h⟩
theorem i0_WatchGuards : (Rows.watchGuardsRow.inPlace == Tryd.prog.inPlace 3) = true := by kernel_rfl
theorem i1_WatchGuards : (Rows.watchGuardsRow.unfollowed == Tryd.prog.unfollowed 3) = true := by kernel_rfl
theorem i2_WatchGuards : (Rows.watchGuardsRow.recurses == Tryd.prog.recurses 3) = true := by kernel_rfl
theorem i3_WatchGuards : (Rows.watchGuardsRow.named == Tryd.prog.varsNamed 3) = true := by kernel_rfl
theorem fn_WatchGuards : Tryd.prog.funcNamed Rows.watchGuardsRow.func = some 3 := by kernel_rfl
theorem rest_WatchGuards : restFacts Tryd.prog Tryd.f3 Rows.watchGuardsSpec Rows.watchGuardsRow = true := by kernel_rfl
theorem wrap_WatchGuards : Tryd.f3.isWrapper Tryd.prog Rows.watchGuardsRow.wrapper Rows.watchGuardsRow.mainSum := by unfold Func.isWrapper; rw [if_neg (of_decide_eq_false (by kernel_rfl))]; exact ⟨rfl, rfl⟩
theorem inst_WatchGuards : Tryd.f3.isInstance Tryd.prog Rows.watchGuardsRow.origin Rows.watchGuardsRow.targs := of_decide_eq_true (by kernel_rfl)
theorem row_WatchGuards : Rows.WatchGuardsSaid :=
  OpenClaim.holds_of_wide 3 Tryd.f3 rfl rfl rfl rfl rfl rfl rfl ⟨rfl, rfl, rfl, rfl, rfl⟩ rfl rfl rfl rfl rfl fn_WatchGuards Tryd.func3
    (joined_of Tryd.laidOutK Tryd.mapsK Tryd.stopsK Tryd.knobsK (by kernel_rfl) Tryd.heardK i0_WatchGuards i1_WatchGuards i2_WatchGuards i3_WatchGuards rest_WatchGuards rfl rfl Tryd.enterK Tryd.liftsK Tryd.makeK (by kernel_rfl))
    inst_WatchGuards wrap_WatchGuards
    (fun os started HH enc _ => lifted_WatchGuards os started HH enc)
/-- **The given statement.** -/
theorem holds_WatchGuards : Rows.WatchGuardsCardSaid :=
  Claim7.holds_tied_plain_at .later [] [.data, .funcs] true (true, "051fffa99e0aa63067a7ba7a81b1841c31cd859f56b6fa81cf12aca7d8e6ff09") false
    row_WatchGuards (fun _ h => by cases h) (by kernel_rfl) (fun _ h => by cases h) watchGuards_row_tie rfl ⟨rfl, rfl⟩ (by kernel_rfl) rfl
    (fun f fn hf hfn => by
      obtain rfl : f = 3 := Option.some.inj (fn_WatchGuards.symm.trans hf) |>.symm
      obtain rfl : fn = Tryd.f3 := (Option.some.inj (Tryd.func3.symm.trans hfn)).symm
      exact ⟨by kernel_rfl, fun j t ht => by
        rw [Tryd.params3] at ht
        have hm : t ∈ [23, 3, 3] := by simpa using Array.mem_of_getElem? ht
        have hall : ([23, 3, 3].all fun u => !Tryd.prog.wantsStandIn u) = true := by kernel_rfl
        exact (show Tryd.prog.wantsStandIn t = false by simpa using List.all_eq_true.1 hall t hm)⟩)
    (by kernel_rfl)
end Go.Proofs.YtaplkoimhecacaaDoor
