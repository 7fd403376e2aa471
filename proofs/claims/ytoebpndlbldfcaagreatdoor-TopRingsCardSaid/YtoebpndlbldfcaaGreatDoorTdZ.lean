/-
  TopRings: the tower of package volume and that of package stack answer with one list where both answer, and the inverse ones too, and the examples hold, for every input. The row lists six variables with what the program's text lays (the card ties them); no other condition.
-/
import Derived.Test.YtoebpndlbldfcaaGreatDoorCards
import Derived.Test.YtoebpndlbldfcaaGreatDoorTd12
namespace Go.Proofs.YtoebpndlbldfcaaGreatDoor
open Go
set_option maxRecDepth 100000
open Go.ChangeShapes Go.WideShapes Go.ChangeAt Go.RowKit
set_option maxRecDepth 100000 in
theorem lifted_TopRings (os : Os) (started : os.Started) (HH : Type) (enc : TypeId × Value → HH) :
    ReturnsInHanded {} Tryz.checked os 3 .any (fun w args => (Rows.topRingsSpec.pre enc Tryz.prog Tryz.f3 Rows.topRingsRow.domain false w args ∧ laidMetH Tryz.prog laidL w) ∧ sizedMet enc Tryz.prog Tryz.f3 (OpenSpec.ofChange Rows.topRingsSpec) false w args) (Rows.topRingsSpec.post enc Tryz.prog Tryz.f3 false true false false) := by
  refine returnsInHanded_of_change_and (C := Tryz.checked) (X := fun w _ => laidMetH Tryz.prog laidL w) (fun _ _ _ hh h => h.of_heap hh) Tryz.ownK started (by kernel_rfl) Tryz.func3
    (ChangeSpec.witness_shaped (enc := enc) (C := Tryz.checked) (os := os) (X := fun w _ => laidMetH Tryz.prog laidL w) false (World.doorLaid Tryz.prog 99 os) #[.slice Option.none 0 0, .int .i64 0, .int .i64 0] 8 rfl (World.shaped_of_RefB (by kernel_rfl) (by kernel_rfl)) (by kernel_rfl) (by kernel_rfl) (by kernel_rfl) (door_met os _)) ?_
  intro W base args ds gs before hval0 hW _ hwt0 hL _
  have hval : ∀ (j : Nat) t v, Tryz.f3.params[j]? = some t → args[j]? = some v → Value.okWide Tryz.prog W .any base t v := hval0
  have hW' := hW
  obtain ⟨p, q, hA0, hV, rfl, hfz, hnd⟩ := hW
  have hA : DataW.TrodAll enc Tryz.prog W 0 (fun _ => true) true Tryz.f3.params.toList args.toList ds p := hA0
  rw [Tryz.params3] at hA hval
  have hAk := hA
  have hlt : ∀ x ∈ p, x.block < W.heap.size := fun x hx => hW'.lt x (List.mem_append_left _ hx)
  obtain ⟨rfl, rfl⟩ := trodVars_none hV
  haveI hgl : Glob (allH W) := glob_of hL
  obtain ⟨v0, vs0, d0, ds0, p0, q0, hargs, rfl, rfl, h0, r0⟩ := Go.ChangeShapes.trodAll_cons hA
  obtain ⟨v1, vs1, d1, ds1, p1, q1, rfl, rfl, rfl, h1, r1⟩ := Go.ChangeShapes.trodAll_cons r0
  obtain ⟨v2, vs2, d2, ds2, p2, q2, rfl, rfl, rfl, h2, r2⟩ := Go.ChangeShapes.trodAll_cons r1
  obtain ⟨rfl, rfl, rfl⟩ := Go.ChangeShapes.trodAll_nil r2
  obtain rfl : args = #[v0, v1, v2] := by apply Array.ext'; simpa using hargs
  obtain ⟨oa, c, l, rfl, hl, _, hS⟩ := rd_22 h0 (hval 0 22 v0 rfl rfl)
  obtain ⟨x, rfl, rfl, rfl, _⟩ := Go.ChangeShapes.open_int Tryz.underlying3 (hval 1 3 v1 rfl rfl) h1
  obtain ⟨y, rfl, rfl, rfl, _⟩ := Go.ChangeShapes.open_int Tryz.underlying3 (hval 2 3 v2 rfl rfl) h2
  refine (calls_of ((w_Rings l oa c (allH W) (hsl := hS) hl x y (hgl := hgl) (hg := tabs_of hL)).mono fun o H' ⟨h1, h2⟩ => ⟨h1, [], h2⟩)).mono fun e W' ⟨he, bel⟩ => ?_
  subst he
  exact ⟨_, rfl, _, _, _, [], _, [], hW', trodAll_mk1 (shut_bool Tryz.underlying4 _), trodAll_below Tryz.laidOutK bel (by decide +kernel) hlt hAk, rfl, bel.frame _, fun h => by cases h⟩
theorem i0_TopRings : (Rows.topRingsRow.inPlace == Tryz.prog.inPlace 3) = true := by kernel_rfl
theorem i1_TopRings : (Rows.topRingsRow.unfollowed == Tryz.prog.unfollowed 3) = true := by kernel_rfl
theorem i2_TopRings : (Rows.topRingsRow.recurses == Tryz.prog.recurses 3) = true := by kernel_rfl
theorem i3_TopRings : (Rows.topRingsRow.named == Tryz.prog.varsNamed 3) = true := by kernel_rfl
theorem fn_TopRings : Tryz.prog.funcNamed Rows.topRingsRow.func = some 3 := by kernel_rfl
theorem rest_TopRings : restFacts Tryz.prog Tryz.f3 Rows.topRingsSpec Rows.topRingsRow = true := by kernel_rfl
theorem wrap_TopRings : Tryz.f3.isWrapper Tryz.prog Rows.topRingsRow.wrapper Rows.topRingsRow.mainSum := by unfold Func.isWrapper; rw [if_neg (of_decide_eq_false (by kernel_rfl))]; exact ⟨rfl, rfl⟩
theorem inst_TopRings : Tryz.f3.isInstance Tryz.prog Rows.topRingsRow.origin Rows.topRingsRow.targs := of_decide_eq_true (by kernel_rfl)
theorem row_TopRings : Rows.TopRingsSaid :=
  OpenClaim.holds_of_wide 3 Tryz.f3 rfl rfl rfl rfl rfl rfl rfl ⟨rfl, rfl, rfl, rfl, rfl⟩ rfl rfl rfl rfl rfl fn_TopRings Tryz.func3
    (joined_of Tryz.laidOutK Tryz.mapsK Tryz.stopsK Tryz.knobsK (by kernel_rfl) Tryz.heardK i0_TopRings i1_TopRings i2_TopRings i3_TopRings rest_TopRings rfl rfl Tryz.enterK Tryz.liftsK Tryz.makeK (by kernel_rfl))
    inst_TopRings wrap_TopRings
    (fun os started HH enc _ => lifted_TopRings os started HH enc)
theorem holds_TopRings : Rows.TopRingsCardSaid :=
  Claim7.holds_tied_plain_at .later [] [.data, .data, .data, .data, .data, .funcs] true (true, "90d284d430f7342dd95053820ebadf13afd8a44229f558074be5fe05ed351343") true
    row_TopRings (fun _ h => by cases h) (by kernel_rfl) (fun _ h => by cases h) topRings_row_tie rfl ⟨rfl, rfl⟩ (by kernel_rfl) rfl
    (fun f fn hf hfn => by
      obtain rfl : f = 3 := Option.some.inj (fn_TopRings.symm.trans hf) |>.symm
      obtain rfl : fn = Tryz.f3 := (Option.some.inj (Tryz.func3.symm.trans hfn)).symm
      exact ⟨by kernel_rfl, fun j t ht => by
        rw [Tryz.params3] at ht
        have hm : t ∈ [22, 3, 3] := by simpa using Array.mem_of_getElem? ht
        have hall : ([22, 3, 3].all fun u => !Tryz.prog.wantsStandIn u) = true := by kernel_rfl
        exact (show Tryz.prog.wantsStandIn t = false by simpa using List.all_eq_true.1 hall t hm)⟩)
    (by kernel_rfl)
end Go.Proofs.YtoebpndlbldfcaaGreatDoor
