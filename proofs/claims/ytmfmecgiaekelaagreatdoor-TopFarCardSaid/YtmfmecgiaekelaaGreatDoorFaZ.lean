/-
  TopFar: an animal that is farther from where the ship begins a passage than far is in none of the steps of Guard in the zone, for every input. The row lists the package's two variables with what the program's text lays (the card ties them); no other condition.
-/
import Derived.Test.YtmfmecgiaekelaaGreatDoorCards
import Derived.Test.YtmfmecgiaekelaaGreatDoorFa11
namespace Go.Proofs.YtmfmecgiaekelaaGreatDoor
open Go
set_option maxRecDepth 100000
open Go.ChangeShapes Go.WideShapes Go.ChangeAt Go.RowKit
set_option maxRecDepth 100000 in
theorem lifted_TopFar (os : Os) (started : os.Started) (HH : Type) (enc : TypeId × Value → HH) :
    ReturnsInHanded {} Tryz.checked os 3 .any (fun w args => (Rows.topFarSpec.pre enc Tryz.prog Tryz.f3 Rows.topFarRow.domain false w args ∧ laidMetH Tryz.prog laidL w) ∧ sizedMet enc Tryz.prog Tryz.f3 (OpenSpec.ofChange Rows.topFarSpec) false w args) (Rows.topFarSpec.post enc Tryz.prog Tryz.f3 false true false false) := by
  refine returnsInHanded_of_change_and (C := Tryz.checked) (X := fun w _ => laidMetH Tryz.prog laidL w) (fun _ _ _ hh h => h.of_heap hh) Tryz.ownK started (by kernel_rfl) Tryz.func3
    (ChangeSpec.witness_shaped (enc := enc) (C := Tryz.checked) (os := os) (X := fun w _ => laidMetH Tryz.prog laidL w) false (World.doorLaid Tryz.prog 79 os) #[.agg #[.slice Option.none 0 0, .slice Option.none 0 0, .slice Option.none 0 0, .int .i64 0, .int .i64 0, .int .i64 0, .int .i64 0, .int .i64 0, .int .i64 0, .int .i64 0, .int .i64 0, .int .i64 0, .int .i64 0, .int .i64 0, .int .i64 0, .int .i64 0, .slice Option.none 0 0], .agg #[.int .i64 0, .int .i64 0, .int .i64 0, .int .i64 0, .int .i64 0, .int .i64 0, .int .i64 0, .slice Option.none 0 0, .int .i64 0, .int .i64 0, .slice Option.none 0 0, .int .i64 0], .agg #[.int .i64 0, .int .i64 0, .int .i64 0, .int .i64 0, .int .i64 0, .int .i64 0, .int .i64 0]] 8 rfl (World.shaped_of_RefB (by kernel_rfl) (by kernel_rfl)) (by kernel_rfl) (by kernel_rfl) (by kernel_rfl) (door_met os _)) ?_
  intro W base args ds gs before hval0 hW _ hwt0 hL _
  have hval : ∀ (j : Nat) t v, Tryz.f3.params[j]? = some t → args[j]? = some v → Value.okWide Tryz.prog W .any base t v := hval0
  have hW' := hW
  obtain ⟨p, q, hA0, hV, rfl, hfz, hnd⟩ := hW
  have hA : DataW.TrodAll enc Tryz.prog W 0 (fun _ => true) true Tryz.f3.params.toList args.toList ds p := hA0
  rw [Tryz.params3] at hA hval
  have hAk := hA
  have hlt : ∀ x ∈ p, x.block < W.heap.size := fun x hx => hW'.lt x (List.mem_append_left _ hx)
  obtain ⟨rfl, rfl⟩ := trodVars_none hV
  haveI hgl : Glob (allH W) := glob_of hL
  obtain ⟨v0, vs0, d0, ds0, p0, q0, hargs, rfl, rfl, h0, r0⟩ := Go.ChangeShapes.trodAll_cons hA
  obtain ⟨v1, vs1, d1, ds1, p1, q1, rfl, rfl, rfl, h1, r1⟩ := Go.ChangeShapes.trodAll_cons r0
  obtain ⟨v2, vs2, d2, ds2, p2, q2, rfl, rfl, rfl, h2, r2⟩ := Go.ChangeShapes.trodAll_cons r1
  obtain ⟨rfl, rfl, rfl⟩ := Go.ChangeShapes.trodAll_nil r2
  obtain rfl : args = #[v0, v1, v2] := by apply Array.ext'; simpa using hargs
  obtain ⟨h, c, rfl, hcz⟩ := rd_35 h0 (hval 0 35 v0 rfl rfl)
  obtain ⟨w, os, ns, cs, st, ob, cb, lb, sp, rfl, hs3, hm, hb⟩ := rd_41 h1 (hval 1 41 v1 rfl rfl)
  obtain ⟨m0, m1, m2, m3, m4, m5, m6, rfl, _⟩ := rd_44 h2 (hval 2 44 v2 rfl rfl)
  refine (calls_of ((w_Far h c w os ns cs st ob cb lb sp ⟨⟨m0, m1⟩, m2⟩ ⟨⟨m3, m4⟩, m5⟩ m6 (allH W) hm hb).mono fun o H' ⟨h1, h2⟩ => ⟨h1, [], h2⟩)).mono fun e W' ⟨he, bel⟩ => ?_
  subst he
  exact ⟨_, rfl, _, _, _, [], _, [], hW', trodAll_mk1 (shut_bool Tryz.underlying4 _), trodAll_below Tryz.laidOutK bel (by decide +kernel) hlt hAk, rfl, bel.frame _, fun h => by cases h⟩
theorem i0_TopFar : (Rows.topFarRow.inPlace == Tryz.prog.inPlace 3) = true := by kernel_rfl
theorem i1_TopFar : (Rows.topFarRow.unfollowed == Tryz.prog.unfollowed 3) = true := by kernel_rfl
theorem i2_TopFar : (Rows.topFarRow.recurses == Tryz.prog.recurses 3) = true := by kernel_rfl
theorem i3_TopFar : (Rows.topFarRow.named == Tryz.prog.varsNamed 3) = true := by kernel_rfl
theorem fn_TopFar : Tryz.prog.funcNamed Rows.topFarRow.func = some 3 := by kernel_rfl
theorem rest_TopFar : restFacts Tryz.prog Tryz.f3 Rows.topFarSpec Rows.topFarRow = true := by kernel_rfl
theorem wrap_TopFar : Tryz.f3.isWrapper Tryz.prog Rows.topFarRow.wrapper Rows.topFarRow.mainSum := by unfold Func.isWrapper; rw [if_neg (of_decide_eq_false (by kernel_rfl))]; exact ⟨rfl, rfl⟩
theorem inst_TopFar : Tryz.f3.isInstance Tryz.prog Rows.topFarRow.origin Rows.topFarRow.targs := of_decide_eq_true (by kernel_rfl)
theorem row_TopFar : Rows.TopFarSaid :=
  OpenClaim.holds_of_wide 3 Tryz.f3 rfl rfl rfl rfl rfl rfl rfl ⟨rfl, rfl, rfl, rfl, rfl⟩ rfl rfl rfl rfl rfl fn_TopFar Tryz.func3
    (joined_of Tryz.laidOutK Tryz.mapsK Tryz.stopsK Tryz.knobsK (by kernel_rfl) Tryz.heardK i0_TopFar i1_TopFar i2_TopFar i3_TopFar rest_TopFar rfl rfl Tryz.enterK Tryz.liftsK Tryz.makeK (by kernel_rfl))
    inst_TopFar wrap_TopFar
    (fun os started HH enc _ => lifted_TopFar os started HH enc)
theorem holds_TopFar : Rows.TopFarCardSaid :=
  Claim7.holds_tied_plain_at .later [] [.data, .funcs] true (true, "68293e9a6648cdbef1ea406bd8533752a3fddb08037528890606c66b8e938c7d") true
    row_TopFar (fun _ h => by cases h) (by kernel_rfl) (fun _ h => by cases h) topFar_row_tie rfl ⟨rfl, rfl⟩ (by kernel_rfl) rfl
    (fun f fn hf hfn => by
      obtain rfl : f = 3 := Option.some.inj (fn_TopFar.symm.trans hf) |>.symm
      obtain rfl : fn = Tryz.f3 := (Option.some.inj (Tryz.func3.symm.trans hfn)).symm
      exact ⟨by kernel_rfl, fun j t ht => by
        rw [Tryz.params3] at ht
        have hm : t ∈ [35, 41, 44] := by simpa using Array.mem_of_getElem? ht
        have hall : ([35, 41, 44].all fun u => !Tryz.prog.wantsStandIn u) = true := by kernel_rfl
        exact (show Tryz.prog.wantsStandIn t = false by simpa using List.all_eq_true.1 hall t hm)⟩)
    (by kernel_rfl)
end Go.Proofs.YtmfmecgiaekelaaGreatDoor
