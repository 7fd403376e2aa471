/-
  WatchHeld: what a keeper sets breaks no rule; who is not told to fire does not; who is told to, fires if it may, for every input. The row lists the package's two variables with what the program's text lays (the card ties them); no other condition.
-/
import Derived.Test.YtaplkoimhecacaaDoorCards
import Derived.Test.YtaplkoimhecacaaDoorHld1
namespace Go.Proofs.YtaplkoimhecacaaDoor
open Go
set_option maxRecDepth 100000
open Go.ChangeShapes Go.WideShapes Go.ChangeAt Go.RowKit
set_option maxRecDepth 100000 in
theorem lifted_WatchHeld (os : Os) (started : os.Started) (HH : Type) (enc : TypeId × Value → HH) :
    ReturnsInHanded {} Tryd.checked os 13 .any (fun w args => (Rows.watchHeldSpec.pre enc Tryd.prog Tryd.f13 Rows.watchHeldRow.domain false w args ∧ laidMetH Tryd.prog laidL w) ∧ sizedMet enc Tryd.prog Tryd.f13 (OpenSpec.ofChange Rows.watchHeldSpec) false w args) (Rows.watchHeldSpec.post enc Tryd.prog Tryd.f13 false true false false) := by
  refine returnsInHanded_of_change_and (C := Tryd.checked) (X := fun w _ => laidMetH Tryd.prog laidL w) (fun _ _ _ hh h => h.of_heap hh) Tryd.ownK started (by kernel_rfl) Tryd.func13
    (ChangeSpec.witness_shaped (enc := enc) (C := Tryd.checked) (os := os) (X := fun w _ => laidMetH Tryd.prog laidL w) false (World.doorLaid Tryd.prog 19 os) #[.agg #[.int .i64 0, .int .i64 0, .int .i64 0, .int .i64 0, .int .i64 0, .int .i64 0, .int .i64 0], .slice Option.none 0 0] 8 rfl (World.shaped_of_RefB (by kernel_rfl) (by kernel_rfl)) (by kernel_rfl) (by kernel_rfl) (by kernel_rfl) (door_met os _)) ?_
  intro W base args ds gs before hval0 hW _ hwt0 hL _
  have hval : ∀ (j : Nat) t v, Tryd.f13.params[j]? = some t → args[j]? = some v → Value.okWide Tryd.prog W .any base t v := hval0
  have hW' := hW
  obtain ⟨p, q, hA0, hV, rfl, hfz, hnd⟩ := hW
  have hA : DataW.TrodAll enc Tryd.prog W 0 (fun _ => true) true Tryd.f13.params.toList args.toList ds p := hA0
  rw [Tryd.params13] at hA hval
  have hAk := hA
  have hlt : ∀ x ∈ p, x.block < W.heap.size := fun x hx => hW'.lt x (List.mem_append_left _ hx)
  obtain ⟨rfl, rfl⟩ := trodVars_none hV
  haveI hgl : Glob (allH W) := glob_of hL
  obtain ⟨v0, vs0, d0, ds0, p0, q0, hargs, rfl, rfl, h0, r0⟩ := Go.ChangeShapes.trodAll_cons hA
  obtain ⟨v1, vs1, d1, ds1, p1, q1, rfl, rfl, rfl, h1, r1⟩ := Go.ChangeShapes.trodAll_cons r0
  obtain ⟨rfl, rfl, rfl⟩ := Go.ChangeShapes.trodAll_nil r1
  obtain rfl : args = #[v0, v1] := by apply Array.ext'; simpa using hargs
  have hwt : (DataW.weightsEach Tryd.prog [23, 88] [d0, d1]).all (· ≤ reachBytes) = true := hwt0
  obtain ⟨a0, a1, a2, a3, a4, a5, a6, rfl, _⟩ := rd_23 h0 (hval 0 23 v0 rfl rfl)
  obtain ⟨ol, cl, ls, rfl, hll, hls, hsl⟩ := rd_looks h1 (hval 1 88 v1 rfl rfl) (fun m hm => of_decide_eq_true (List.all_eq_true.1 hwt m (DataW.weights_mem_each (j := 1) rfl rfl m hm)))
  refine (calls_of ((w_Held ⟨a0, a1, a2, a3, a4, a5, a6⟩ ol cl ls (allH W) hll hls).mono fun o H' ⟨h1, h2⟩ => ⟨h1, [], h2⟩)).mono fun e W' ⟨he, bel⟩ => ?_
  subst he
  exact ⟨_, rfl, _, _, _, [], _, [], hW', trodAll_mk1 (shut_bool Tryd.underlying4 _), trodAll_below Tryd.laidOutK bel (by decide +kernel) hlt hAk, rfl, bel.frame _, fun h => by cases h⟩
theorem i0_WatchHeld : (Rows.watchHeldRow.inPlace == Tryd.prog.inPlace 13) = true := by kernel_rfl
theorem i1_WatchHeld : (Rows.watchHeldRow.unfollowed == Tryd.prog.unfollowed 13) = true := by kernel_rfl
theorem i2_WatchHeld : (Rows.watchHeldRow.recurses == Tryd.prog.recurses 13) = true := by kernel_rfl
theorem i3_WatchHeld : (Rows.watchHeldRow.named == Tryd.prog.varsNamed 13) = true := by kernel_rfl
theorem fn_WatchHeld : Tryd.prog.funcNamed Rows.watchHeldRow.func = some 13 := by kernel_rfl
theorem rest_WatchHeld : restFacts Tryd.prog Tryd.f13 Rows.watchHeldSpec Rows.watchHeldRow = true := by kernel_rfl
theorem wrap_WatchHeld : Tryd.f13.isWrapper Tryd.prog Rows.watchHeldRow.wrapper Rows.watchHeldRow.mainSum := by unfold Func.isWrapper; rw [if_neg (of_decide_eq_false (by kernel_rfl))]; exact ⟨rfl, rfl⟩
theorem inst_WatchHeld : Tryd.f13.isInstance Tryd.prog Rows.watchHeldRow.origin Rows.watchHeldRow.targs := of_decide_eq_true (by kernel_rfl)
theorem row_WatchHeld : Rows.WatchHeldSaid :=
  OpenClaim.holds_of_wide 13 Tryd.f13 rfl rfl rfl rfl rfl rfl rfl ⟨rfl, rfl, rfl, rfl, rfl⟩ rfl rfl rfl rfl rfl fn_WatchHeld Tryd.func13
    (joined_of Tryd.laidOutK Tryd.mapsK Tryd.stopsK Tryd.knobsK (by kernel_rfl) Tryd.heardK i0_WatchHeld i1_WatchHeld i2_WatchHeld i3_WatchHeld rest_WatchHeld rfl rfl Tryd.enterK Tryd.liftsK Tryd.makeK (by kernel_rfl))
    inst_WatchHeld wrap_WatchHeld
    (fun os started HH enc _ => lifted_WatchHeld os started HH enc)
/-- **The given statement.** -/
theorem holds_WatchHeld : Rows.WatchHeldCardSaid :=
  Claim7.holds_tied_plain_at .later [] [.data, .funcs] true (true, "051fffa99e0aa63067a7ba7a81b1841c31cd859f56b6fa81cf12aca7d8e6ff09") false
    row_WatchHeld (fun _ h => by cases h) (by kernel_rfl) (fun _ h => by cases h) watchHeld_row_tie rfl ⟨rfl, rfl⟩ (by kernel_rfl) rfl
    (fun f fn hf hfn => by
      obtain rfl : f = 13 := Option.some.inj (fn_WatchHeld.symm.trans hf) |>.symm
      obtain rfl : fn = Tryd.f13 := (Option.some.inj (Tryd.func13.symm.trans hfn)).symm
      exact ⟨by kernel_rfl, fun j t ht => by
        rw [Tryd.params13] at ht
        have hm : t ∈ [23, 88] := by simpa using Array.mem_of_getElem? ht
        have hall : ([23, 88].all fun u => !Tryd.prog.wantsStandIn u) = true := by kernel_rfl
        exact (show Tryd.prog.wantsStandIn t = false by simpa using List.all_eq_true.1 hall t hm)⟩)
    (by kernel_rfl)
end Go.Proofs.YtaplkoimhecacaaDoor
