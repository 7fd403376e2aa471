/-
  WatchSafe: under a plan that breaks no rule no source fires in danger or unwatched, and each full step comes of a whole soft start, for every input. The row lists the package's two variables with what the program's text lays (the card ties them); no other condition.
-/
import Derived.Test.YtaplkoimhecacaaDoorCards
import Derived.Test.YtaplkoimhecacaaDoorTsa1
namespace Go.Proofs.YtaplkoimhecacaaDoor
open Go
set_option maxRecDepth 100000
open Go.ChangeShapes Go.WideShapes Go.ChangeAt Go.RowKit
set_option maxRecDepth 100000 in
theorem lifted_WatchSafe (os : Os) (started : os.Started) (HH : Type) (enc : TypeId × Value → HH) :
    ReturnsInHanded {} Tryd.checked os 4 .any (fun w args => (Rows.watchSafeSpec.pre enc Tryd.prog Tryd.f4 Rows.watchSafeRow.domain false w args ∧ laidMetH Tryd.prog laidL w) ∧ sizedMet enc Tryd.prog Tryd.f4 (OpenSpec.ofChange Rows.watchSafeSpec) false w args) (Rows.watchSafeSpec.post enc Tryd.prog Tryd.f4 false true false false) := by
  refine returnsInHanded_of_change_and (C := Tryd.checked) (X := fun w _ => laidMetH Tryd.prog laidL w) (fun _ _ _ hh h => h.of_heap hh) Tryd.ownK started (by kernel_rfl) Tryd.func4
    (ChangeSpec.witness_shaped (enc := enc) (C := Tryd.checked) (os := os) (X := fun w _ => laidMetH Tryd.prog laidL w) false (World.doorLaid Tryd.prog 19 os) #[.agg #[.int .i64 0, .int .i64 0, .int .i64 0, .int .i64 0, .int .i64 0, .int .i64 0, .int .i64 0], .agg #[.slice Option.none 0 0, .slice Option.none 0 0, .slice Option.none 0 0, .slice Option.none 0 0, .slice Option.none 0 0], .slice Option.none 0 0] 8 rfl (World.shaped_of_RefB (by kernel_rfl) (by kernel_rfl)) (by kernel_rfl) (by kernel_rfl) (by kernel_rfl) (door_met os _)) ?_
  intro W base args ds gs before hval0 hW _ _ hL _
  have hval : ∀ (j : Nat) t v, Tryd.f4.params[j]? = some t → args[j]? = some v → Value.okWide Tryd.prog W .any base t v := hval0
  have hW' := hW
  obtain ⟨p, q, hA0, hV, rfl, hfz, hnd⟩ := hW
  have hA : DataW.TrodAll enc Tryd.prog W 0 (fun _ => true) true Tryd.f4.params.toList args.toList ds p := hA0
  rw [Tryd.params4] at hA hval
  have hAk := hA
  have hlt : ∀ x ∈ p, x.block < W.heap.size := fun x hx => hW'.lt x (List.mem_append_left _ hx)
  obtain ⟨rfl, rfl⟩ := trodVars_none hV
  haveI hgl : Glob (allH W) := glob_of hL
  obtain ⟨v0, vs0, d0, ds0, p0, q0, hargs, rfl, rfl, h0, r0⟩ := Go.ChangeShapes.trodAll_cons hA
  obtain ⟨v1, vs1, d1, ds1, p1, q1, rfl, rfl, rfl, h1, r1⟩ := Go.ChangeShapes.trodAll_cons r0
  obtain ⟨v2, vs2, d2, ds2, p2, q2, rfl, rfl, rfl, h2, r2⟩ := Go.ChangeShapes.trodAll_cons r1
  obtain ⟨rfl, rfl, rfl⟩ := Go.ChangeShapes.trodAll_nil r2
  obtain rfl : args = #[v0, v1, v2] := by apply Array.ext'; simpa using hargs
  obtain ⟨a0, a1, a2, a3, a4, a5, a6, rfl, _⟩ := rd_23 h0 (hval 0 23 v0 rfl rfl)
  obtain ⟨h, s, rfl, hsc, hsgR⟩ := rd_33 h1 (hval 1 33 v1 rfl rfl)
  obtain ⟨oa, c, l, rfl, hl, hlR, hS⟩ := rd_34 h2 (hval 2 34 v2 rfl rfl)
  refine (calls_of ((w_Safe ⟨a0, a1, a2, a3, a4, a5, a6⟩ h s l oa c (allH W) hl).mono fun o H' ⟨h1, h2⟩ => ⟨h1, [], h2⟩)).mono fun e W' ⟨he, bel⟩ => ?_
  subst he
  exact ⟨_, rfl, _, _, _, [], _, [], hW', trodAll_mk1 (shut_bool Tryd.underlying4 _), trodAll_below Tryd.laidOutK bel (by decide +kernel) hlt hAk, rfl, bel.frame _, fun h => by cases h⟩
theorem i0_WatchSafe : (Rows.watchSafeRow.inPlace == Tryd.prog.inPlace 4) = true := by kernel_rfl
theorem i1_WatchSafe : (Rows.watchSafeRow.unfollowed == Tryd.prog.unfollowed 4) = true := by kernel_rfl
theorem i2_WatchSafe : (Rows.watchSafeRow.recurses == Tryd.prog.recurses 4) = true := by kernel_rfl
theorem i3_WatchSafe : (Rows.watchSafeRow.named == Tryd.prog.varsNamed 4) = true := by kernel_rfl
theorem fn_WatchSafe : Tryd.prog.funcNamed Rows.watchSafeRow.func = some 4 := by kernel_rfl
theorem rest_WatchSafe : restFacts Tryd.prog Tryd.f4 Rows.watchSafeSpec Rows.watchSafeRow = true := by kernel_rfl
theorem wrap_WatchSafe : Tryd.f4.isWrapper Tryd.prog Rows.watchSafeRow.wrapper Rows.watchSafeRow.mainSum := by unfold Func.isWrapper; rw [if_neg (of_decide_eq_false (by kernel_rfl))]; exact ⟨rfl, rfl⟩
theorem inst_WatchSafe : Tryd.f4.isInstance Tryd.prog Rows.watchSafeRow.origin Rows.watchSafeRow.targs := of_decide_eq_true (by kernel_rfl)
theorem row_WatchSafe : Rows.WatchSafeSaid :=
  OpenClaim.holds_of_wide 4 Tryd.f4 rfl rfl rfl rfl rfl rfl rfl ⟨rfl, rfl, rfl, rfl, rfl⟩ rfl rfl rfl rfl rfl fn_WatchSafe Tryd.func4
    (joined_of Tryd.laidOutK Tryd.mapsK Tryd.stopsK Tryd.knobsK (by kernel_rfl) Tryd.heardK i0_WatchSafe i1_WatchSafe i2_WatchSafe i3_WatchSafe rest_WatchSafe rfl rfl Tryd.enterK Tryd.liftsK Tryd.makeK (by kernel_rfl))
    inst_WatchSafe wrap_WatchSafe
    (fun os started HH enc _ => lifted_WatchSafe os started HH enc)
/-- **The given statement.** -/
theorem holds_WatchSafe : Rows.WatchSafeCardSaid :=
  Claim7.holds_tied_plain_at .later [] [.data, .funcs] true (true, "051fffa99e0aa63067a7ba7a81b1841c31cd859f56b6fa81cf12aca7d8e6ff09") false
    row_WatchSafe (fun _ h => by cases h) (by kernel_rfl) (fun _ h => by cases h) watchSafe_row_tie rfl ⟨rfl, rfl⟩ (by kernel_rfl) rfl
    (fun f fn hf hfn => by
      obtain rfl : f = 4 := Option.some.inj (fn_WatchSafe.symm.trans hf) |>.symm
      obtain rfl : fn = Tryd.f4 := (Option.some.inj (Tryd.func4.symm.trans hfn)).symm
      exact ⟨by kernel_rfl, fun j t ht => by
        rw [Tryd.params4] at ht
        have hm : t ∈ [23, 33, 34] := by simpa using Array.mem_of_getElem? ht
        have hall : ([23, 33, 34].all fun u => !Tryd.prog.wantsStandIn u) = true := by kernel_rfl
        exact (show Tryd.prog.wantsStandIn t = false by simpa using List.all_eq_true.1 hall t hm)⟩)
    (by kernel_rfl)
end Go.Proofs.YtaplkoimhecacaaDoor
