/-
  TopSilent: shots in steps in which the best plan is not full are bad; what is to be repeated of them is among these steps, and no fewer than any proof says; for every input. The row lists the package's two variables with what the program's text lays (the card ties them); no other condition.
-/
import Derived.Test.YtmfmecgiaekelaaGreatDoorCards
import Derived.Test.YtmfmecgiaekelaaGreatDoorSa11
namespace Go.Proofs.YtmfmecgiaekelaaGreatDoor
open Go
set_option maxRecDepth 100000
open Go.ChangeShapes Go.WideShapes Go.ChangeAt Go.RowKit
set_option maxRecDepth 100000 in
theorem lifted_TopSilent (os : Os) (started : os.Started) (HH : Type) (enc : TypeId × Value → HH) :
    ReturnsInHanded {} Tryz.checked os 4 .any (fun w args => (Rows.topSilentSpec.pre enc Tryz.prog Tryz.f4 Rows.topSilentRow.domain false w args ∧ laidMetH Tryz.prog laidL w) ∧ sizedMet enc Tryz.prog Tryz.f4 (OpenSpec.ofChange Rows.topSilentSpec) false w args) (Rows.topSilentSpec.post enc Tryz.prog Tryz.f4 false true false false) := by
  refine returnsInHanded_of_change_and (C := Tryz.checked) (X := fun w _ => laidMetH Tryz.prog laidL w) (fun _ _ _ hh h => h.of_heap hh) Tryz.ownK started (by kernel_rfl) Tryz.func4
    (ChangeSpec.witness_shaped (enc := enc) (C := Tryz.checked) (os := os) (X := fun w _ => laidMetH Tryz.prog laidL w) false (World.doorLaid Tryz.prog 79 os) #[.agg #[.int .i64 0, .int .i64 0, .int .i64 0, .int .i64 0, .int .i64 0, .int .i64 0, .int .i64 0], .agg #[.slice Option.none 0 0, .slice Option.none 0 0, .slice Option.none 0 0, .slice Option.none 0 0, .slice Option.none 0 0], .agg #[.int .i64 0, .int .i64 0, .int .i64 0, .int .i64 0, .slice Option.none 0 0]] 8 rfl (World.shaped_of_RefB (by kernel_rfl) (by kernel_rfl)) (by kernel_rfl) (by kernel_rfl) (by kernel_rfl) (door_met os _)) ?_
  intro W base args ds gs before hval0 hW _ hwt0 hL _
  have hval : ∀ (j : Nat) t v, Tryz.f4.params[j]? = some t → args[j]? = some v → Value.okWide Tryz.prog W .any base t v := hval0
  have hW' := hW
  obtain ⟨p, q, hA0, hV, rfl, hfz, hnd⟩ := hW
  have hA : DataW.TrodAll enc Tryz.prog W 0 (fun _ => true) true Tryz.f4.params.toList args.toList ds p := hA0
  rw [Tryz.params4] at hA hval
  have hAk := hA
  have hlt : ∀ x ∈ p, x.block < W.heap.size := fun x hx => hW'.lt x (List.mem_append_left _ hx)
  obtain ⟨rfl, rfl⟩ := trodVars_none hV
  haveI hgl : Glob (allH W) := glob_of hL
  obtain ⟨v0, vs0, d0, ds0, p0, q0, hargs, rfl, rfl, h0, r0⟩ := Go.ChangeShapes.trodAll_cons hA
  obtain ⟨v1, vs1, d1, ds1, p1, q1, rfl, rfl, rfl, h1, r1⟩ := Go.ChangeShapes.trodAll_cons r0
  obtain ⟨v2, vs2, d2, ds2, p2, q2, rfl, rfl, rfl, h2, r2⟩ := Go.ChangeShapes.trodAll_cons r1
  obtain ⟨rfl, rfl, rfl⟩ := Go.ChangeShapes.trodAll_nil r2
  obtain rfl : args = #[v0, v1, v2] := by apply Array.ext'; simpa using hargs
  obtain ⟨a0, a1, a2, a3, a4, a5, a6, rfl, _⟩ := rd_37 h0 (hval 0 37 v0 rfl rfl)
  obtain ⟨h, s, rfl, hsc⟩ := rd_59 h1 (hval 1 59 v1 rfl rfl)
  obtain ⟨r, pf, op, cp, rfl, hspf, hpl, hpr⟩ := rd_64 h2 (hval 2 64 v2 rfl rfl)
  refine (calls_of ((w_Silent ⟨a0, a1, a2, a3, a4, a5, a6⟩ h s r pf op cp (allH W) hpl hpr).mono fun o H' ⟨h1, h2⟩ => ⟨h1, [], h2⟩)).mono fun e W' ⟨he, bel⟩ => ?_
  subst he
  exact ⟨_, rfl, _, _, _, [], _, [], hW', trodAll_mk1 (shut_bool Tryz.underlying4 _), trodAll_below Tryz.laidOutK bel (by decide +kernel) hlt hAk, rfl, bel.frame _, fun h => by cases h⟩
theorem i0_TopSilent : (Rows.topSilentRow.inPlace == Tryz.prog.inPlace 4) = true := by kernel_rfl
theorem i1_TopSilent : (Rows.topSilentRow.unfollowed == Tryz.prog.unfollowed 4) = true := by kernel_rfl
theorem i2_TopSilent : (Rows.topSilentRow.recurses == Tryz.prog.recurses 4) = true := by kernel_rfl
theorem i3_TopSilent : (Rows.topSilentRow.named == Tryz.prog.varsNamed 4) = true := by kernel_rfl
theorem fn_TopSilent : Tryz.prog.funcNamed Rows.topSilentRow.func = some 4 := by kernel_rfl
theorem rest_TopSilent : restFacts Tryz.prog Tryz.f4 Rows.topSilentSpec Rows.topSilentRow = true := by kernel_rfl
theorem wrap_TopSilent : Tryz.f4.isWrapper Tryz.prog Rows.topSilentRow.wrapper Rows.topSilentRow.mainSum := by unfold Func.isWrapper; rw [if_neg (of_decide_eq_false (by kernel_rfl))]; exact ⟨rfl, rfl⟩
theorem inst_TopSilent : Tryz.f4.isInstance Tryz.prog Rows.topSilentRow.origin Rows.topSilentRow.targs := of_decide_eq_true (by kernel_rfl)
theorem row_TopSilent : Rows.TopSilentSaid :=
  OpenClaim.holds_of_wide 4 Tryz.f4 rfl rfl rfl rfl rfl rfl rfl ⟨rfl, rfl, rfl, rfl, rfl⟩ rfl rfl rfl rfl rfl fn_TopSilent Tryz.func4
    (joined_of Tryz.laidOutK Tryz.mapsK Tryz.stopsK Tryz.knobsK (by kernel_rfl) Tryz.heardK i0_TopSilent i1_TopSilent i2_TopSilent i3_TopSilent rest_TopSilent rfl rfl Tryz.enterK Tryz.liftsK Tryz.makeK (by kernel_rfl))
    inst_TopSilent wrap_TopSilent
    (fun os started HH enc _ => lifted_TopSilent os started HH enc)
theorem holds_TopSilent : Rows.TopSilentCardSaid :=
  Claim7.holds_tied_plain_at .later [] [.data, .funcs] true (true, "68293e9a6648cdbef1ea406bd8533752a3fddb08037528890606c66b8e938c7d") true
    row_TopSilent (fun _ h => by cases h) (by kernel_rfl) (fun _ h => by cases h) topSilent_row_tie rfl ⟨rfl, rfl⟩ (by kernel_rfl) rfl
    (fun f fn hf hfn => by
      obtain rfl : f = 4 := Option.some.inj (fn_TopSilent.symm.trans hf) |>.symm
      obtain rfl : fn = Tryz.f4 := (Option.some.inj (Tryz.func4.symm.trans hfn)).symm
      exact ⟨by kernel_rfl, fun j t ht => by
        rw [Tryz.params4] at ht
        have hm : t ∈ [37, 59, 64] := by simpa using Array.mem_of_getElem? ht
        have hall : ([37, 59, 64].all fun u => !Tryz.prog.wantsStandIn u) = true := by kernel_rfl
        exact (show Tryz.prog.wantsStandIn t = false by simpa using List.all_eq_true.1 hall t hm)⟩)
    (by kernel_rfl)
end Go.Proofs.YtmfmecgiaekelaaGreatDoor
