/-
  WatchTold: a keeper's scene is what it was told, and does not depend on what was refused, for every input. The row lists the package's two variables with what the program's text lays (the card ties them); no other condition.
-/
import Derived.Test.YtaplkoimhecacaaDoorCards
import Derived.Test.YtaplkoimhecacaaDoorTld1
namespace Go.Proofs.YtaplkoimhecacaaDoor
open Go
set_option maxRecDepth 100000
open Go.ChangeShapes Go.WideShapes Go.ChangeAt Go.RowKit
set_option maxRecDepth 100000 in
theorem lifted_WatchTold (os : Os) (started : os.Started) (HH : Type) (enc : TypeId × Value → HH) :
    ReturnsInHanded {} Tryd.checked os 14 .any (fun w args => (Rows.watchToldSpec.pre enc Tryd.prog Tryd.f14 Rows.watchToldRow.domain false w args ∧ laidMetH Tryd.prog laidL w) ∧ sizedMet enc Tryd.prog Tryd.f14 (OpenSpec.ofChange Rows.watchToldSpec) false w args) (Rows.watchToldSpec.post enc Tryd.prog Tryd.f14 false true false false) := by
  refine returnsInHanded_of_change_and (C := Tryd.checked) (X := fun w _ => laidMetH Tryd.prog laidL w) (fun _ _ _ hh h => h.of_heap hh) Tryd.ownK started (by kernel_rfl) Tryd.func14
    (ChangeSpec.witness_shaped (enc := enc) (C := Tryd.checked) (os := os) (X := fun w _ => laidMetH Tryd.prog laidL w) false (World.doorLaid Tryd.prog 19 os) #[.agg #[.int .i64 0, .int .i64 0, .int .i64 0, .int .i64 0, .int .i64 0, .int .i64 0, .int .i64 0], .slice Option.none 0 0] 8 rfl (World.shaped_of_RefB (by kernel_rfl) (by kernel_rfl)) (by kernel_rfl) (by kernel_rfl) (by kernel_rfl) (door_met os _)) ?_
  intro W base args ds gs before hval0 hW _ hwt0 hL _
  have hval : ∀ (j : Nat) t v, Tryd.f14.params[j]? = some t → args[j]? = some v → Value.okWide Tryd.prog W .any base t v := hval0
  have hW' := hW
  obtain ⟨p, q, hA0, hV, rfl, hfz, hnd⟩ := hW
  have hA : DataW.TrodAll enc Tryd.prog W 0 (fun _ => true) true Tryd.f14.params.toList args.toList ds p := hA0
  rw [Tryd.params14] at hA hval
  have hAk := hA
  have hlt : ∀ x ∈ p, x.block < W.heap.size := fun x hx => hW'.lt x (List.mem_append_left _ hx)
  obtain ⟨rfl, rfl⟩ := trodVars_none hV
  haveI hgl : Glob (allH W) := glob_of hL
  obtain ⟨v0, vs0, d0, ds0, p0, q0, hargs, rfl, rfl, h0, r0⟩ := Go.ChangeShapes.trodAll_cons hA
  obtain ⟨v1, vs1, d1, ds1, p1, q1, rfl, rfl, rfl, h1, r1⟩ := Go.ChangeShapes.trodAll_cons r0
  obtain ⟨rfl, rfl, rfl⟩ := Go.ChangeShapes.trodAll_nil r1
  obtain rfl : args = #[v0, v1] := by apply Array.ext'; simpa using hargs
  have hwt : (DataW.weightsEach Tryd.prog [23, 88] [d0, d1]).all (· ≤ reachBytes) = true := hwt0
  obtain ⟨a0, a1, a2, a3, a4, a5, a6, rfl, _⟩ := rd_23 h0 (hval 0 23 v0 rfl rfl)
  obtain ⟨ol, cl, ls, rfl, hll, hls, hsl⟩ := rd_looks h1 (hval 1 88 v1 rfl rfl) (fun m hm => of_decide_eq_true (List.all_eq_true.1 hwt m (DataW.weights_mem_each (j := 1) rfl rfl m hm)))
  refine (calls_of ((w_Told ⟨a0, a1, a2, a3, a4, a5, a6⟩ ol cl ls (allH W) hll hls).mono fun o H' ⟨h1, h2⟩ => ⟨h1, [], h2⟩)).mono fun e W' ⟨he, bel⟩ => ?_
  subst he
  exact ⟨_, rfl, _, _, _, [], _, [], hW', trodAll_mk1 (shut_bool Tryd.underlying4 _), trodAll_below Tryd.laidOutK bel (by decide +kernel) hlt hAk, rfl, bel.frame _, fun h => by cases h⟩
theorem i0_WatchTold : (Rows.watchToldRow.inPlace == Tryd.prog.inPlace 14) = true := by kernel_rfl
theorem i1_WatchTold : (Rows.watchToldRow.unfollowed == Tryd.prog.unfollowed 14) = true := by kernel_rfl
theorem i2_WatchTold : (Rows.watchToldRow.recurses == Tryd.prog.recurses 14) = true := by kernel_rfl
theorem i3_WatchTold : (Rows.watchToldRow.named == Tryd.prog.varsNamed 14) = true := by kernel_rfl
theorem fn_WatchTold : Tryd.prog.funcNamed Rows.watchToldRow.func = some 14 := by kernel_rfl
theorem rest_WatchTold : restFacts Tryd.prog Tryd.f14 Rows.watchToldSpec Rows.watchToldRow = true := by kernel_rfl
theorem wrap_WatchTold : Tryd.f14.isWrapper Tryd.prog Rows.watchToldRow.wrapper Rows.watchToldRow.mainSum := by unfold Func.isWrapper; rw [if_neg (of_decide_eq_false (by kernel_rfl))]; exact ⟨rfl, rfl⟩
theorem inst_WatchTold : Tryd.f14.isInstance Tryd.prog Rows.watchToldRow.origin Rows.watchToldRow.targs := of_decide_eq_true (by kernel_rfl)
theorem row_WatchTold : Rows.WatchToldSaid :=
  OpenClaim.holds_of_wide 14 Tryd.f14 rfl rfl rfl rfl rfl rfl rfl ⟨rfl, rfl, rfl, rfl, rfl⟩ rfl rfl rfl rfl rfl fn_WatchTold Tryd.func14
    (joined_of Tryd.laidOutK Tryd.mapsK Tryd.stopsK Tryd.knobsK (by kernel_rfl) Tryd.heardK i0_WatchTold i1_WatchTold i2_WatchTold i3_WatchTold rest_WatchTold rfl rfl Tryd.enterK Tryd.liftsK Tryd.makeK (by kernel_rfl))
    inst_WatchTold wrap_WatchTold
    (fun os started HH enc _ => lifted_WatchTold os started HH enc)
/-- **The given statement.** -/
theorem holds_WatchTold : Rows.WatchToldCardSaid :=
  Claim7.holds_tied_plain_at .later [] [.data, .funcs] true (true, "051fffa99e0aa63067a7ba7a81b1841c31cd859f56b6fa81cf12aca7d8e6ff09") false
    row_WatchTold (fun _ h => by cases h) (by kernel_rfl) (fun _ h => by cases h) watchTold_row_tie rfl ⟨rfl, rfl⟩ (by kernel_rfl) rfl
    (fun f fn hf hfn => by
      obtain rfl : f = 14 := Option.some.inj (fn_WatchTold.symm.trans hf) |>.symm
      obtain rfl : fn = Tryd.f14 := (Option.some.inj (Tryd.func14.symm.trans hfn)).symm
      exact ⟨by kernel_rfl, fun j t ht => by
        rw [Tryd.params14] at ht
        have hm : t ∈ [23, 88] := by simpa using Array.mem_of_getElem? ht
        have hall : ([23, 88].all fun u => !Tryd.prog.wantsStandIn u) = true := by kernel_rfl
        exact (show Tryd.prog.wantsStandIn t = false by simpa using List.all_eq_true.1 hall t hm)⟩)
    (by kernel_rfl)
end Go.Proofs.YtaplkoimhecacaaDoor
